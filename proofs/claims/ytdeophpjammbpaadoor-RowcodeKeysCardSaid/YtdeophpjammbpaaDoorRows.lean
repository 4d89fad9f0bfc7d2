/-
  NARROWER THAN 'FOR EVERY INPUT', by the rows' own cells (each row's printed sentence says how): RowcodeEncodes: laid · SchemaFills: laid · SchemaRight: laid · SchemaRows: laid · SchemaSets: laid · SchemaFinds: laid · RowcodeDecodes: laid · RowcodeBack: laid · RowcodeTypes: laid · RowcodeKeys: laid.
  DERIVED. THE GIVEN ROWS OF THIS SEAT. 10 by the template 'for every input the law returns true; each argument reads behind the call as it read before'; 0 by the template 'total and deterministic' (their statements: YtdeophpjammbpaaDoorTotals.lean).
  GIVEN WITH THE SEED: the statements are not yours to turn. If you find one false, say at which input.
  Laid BY PROGRAM, IN A SANDBOX (cutbox-rows.mjs): the forced cells as the released guide's own fill.sh prints them over the translation b890f2393b4aa435… (all of the seat's roots in one cut). By AI agents, Wed Nov 11 2026. No macro, syntax, notation, axiom, sorry.
-/
import Derived.Test.YtdeophpjammbpaaDoorChecked
import GoSem.Claim
import GoSem.ClaimJoined
import GoSem.ClaimMapViews
import Derived.JoinedTies
import Derived.KernelRfl
namespace Go.Proofs.YtdeophpjammbpaaDoor
/- THE CELL 'sum', in the pinned program and in every row, IS THE sha256 OF THE DUMP (.gsa) THAT YtdeophpjammbpaaDoorProg.lean LOADS. Nothing in Lean hashes anything: it is a label: what it is worth is what the hold of that sum in a sandbox is worth. -/
noncomputable def Tryd.pinned : Pinned := { name := "ytdeophpjammbpaadoor", sum := "b890f2393b4aa4351b4906b5126ffe1e837904e16d1d732aa34e6cb6bfa329e1", checked := Tryd.checked }
namespace Rows
def none {H : Type} : Left H := { results := [], args := [] }

/- WHAT THE LISTED PACKAGE-LEVEL VARIABLES READ AS WHEN THE CALL BEGINS. Each datum BY PROGRAM (the guide's laid-datum.mjs) off the statement by which the dump's own 'gosem.cut.vars' lays the variable. In a bare row this is a premise. The card (YtdeophpjammbpaaDoorCards.lean) ties it to the program's text. -/
def laid_haulage_utf_least {H : Type} : DataW H := .agg [.lit (.int .i64 0), .lit (.int .i64 0), .lit (.int .i64 128), .lit (.int .i64 2048), .lit (.int .i64 65536)]

/-- 'haulagelaw12.RowcodeEncodes': WHATEVER THE INPUT: true; the input reads as it did. -/
def rowcodeEncodesSpec : ChangeSpec := { name := "rowcodeEncodes", fn := fun _ => fun
  | [d1, d2] => { results := [.lit (.bool true)], args := [d1, d2] }
  | _ => none }
def rowcodeEncodesRow : OpenClaim := { program := "ytdeophpjammbpaadoor", sum := "b890f2393b4aa4351b4906b5126ffe1e837904e16d1d732aa34e6cb6bfa329e1", func := "haulage/haulagelaw12.RowcodeEncodes", spec := "rowcodeEncodes", unfollowed := true, recurses := true, named := ["haulage/utf.least"], apart := false, laid := [("haulage/utf.least", laid_haulage_utf_least)] }
def RowcodeEncodesSaid : Prop := rowcodeEncodesRow.holds Tryd.pinned (OpenSpec.ofChange rowcodeEncodesSpec)

/-- ITS FALSE NEIGHBOUR: 'it returns false'. Refute it at one input. -/
def rowcodeEncodesWrong : ChangeSpec := { name := "rowcodeEncodes", fn := fun _ => fun
  | [d1, d2] => { results := [.lit (.bool false)], args := [d1, d2] }
  | _ => none }
def RowcodeEncodesWrongFalsely : Prop := rowcodeEncodesRow.holds Tryd.pinned (OpenSpec.ofChange rowcodeEncodesWrong)

/-- 'haulagelaw08.SchemaFills': WHATEVER THE INPUT: true; the input reads as it did. -/
def schemaFillsSpec : ChangeSpec := { name := "schemaFills", fn := fun _ => fun
  | [d1, d2] => { results := [.lit (.bool true)], args := [d1, d2] }
  | _ => none }
def schemaFillsRow : OpenClaim := { program := "ytdeophpjammbpaadoor", sum := "b890f2393b4aa4351b4906b5126ffe1e837904e16d1d732aa34e6cb6bfa329e1", func := "haulage/haulagelaw08.SchemaFills", spec := "schemaFills", unfollowed := true, recurses := true, named := ["haulage/utf.least"], apart := false, laid := [("haulage/utf.least", laid_haulage_utf_least)] }
def SchemaFillsSaid : Prop := schemaFillsRow.holds Tryd.pinned (OpenSpec.ofChange schemaFillsSpec)

/-- ITS FALSE NEIGHBOUR: 'it returns false'. Refute it at one input. -/
def schemaFillsWrong : ChangeSpec := { name := "schemaFills", fn := fun _ => fun
  | [d1, d2] => { results := [.lit (.bool false)], args := [d1, d2] }
  | _ => none }
def SchemaFillsWrongFalsely : Prop := schemaFillsRow.holds Tryd.pinned (OpenSpec.ofChange schemaFillsWrong)

/-- 'haulagelaw08.SchemaRight': WHATEVER THE INPUT: true; the input reads as it did. -/
def schemaRightSpec : ChangeSpec := { name := "schemaRight", fn := fun _ => fun
  | [d] => { results := [.lit (.bool true)], args := [d] }
  | _ => none }
def schemaRightRow : OpenClaim := { program := "ytdeophpjammbpaadoor", sum := "b890f2393b4aa4351b4906b5126ffe1e837904e16d1d732aa34e6cb6bfa329e1", func := "haulage/haulagelaw08.SchemaRight", spec := "schemaRight", unfollowed := true, recurses := true, named := ["haulage/utf.least"], apart := false, laid := [("haulage/utf.least", laid_haulage_utf_least)] }
def SchemaRightSaid : Prop := schemaRightRow.holds Tryd.pinned (OpenSpec.ofChange schemaRightSpec)

/-- ITS FALSE NEIGHBOUR: 'it returns false'. Refute it at one input. -/
def schemaRightWrong : ChangeSpec := { name := "schemaRight", fn := fun _ => fun
  | [d] => { results := [.lit (.bool false)], args := [d] }
  | _ => none }
def SchemaRightWrongFalsely : Prop := schemaRightRow.holds Tryd.pinned (OpenSpec.ofChange schemaRightWrong)

/-- 'haulagelaw08.SchemaRows': WHATEVER THE INPUT: true; the input reads as it did. -/
def schemaRowsSpec : ChangeSpec := { name := "schemaRows", fn := fun _ => fun
  | [d1, d2] => { results := [.lit (.bool true)], args := [d1, d2] }
  | _ => none }
def schemaRowsRow : OpenClaim := { program := "ytdeophpjammbpaadoor", sum := "b890f2393b4aa4351b4906b5126ffe1e837904e16d1d732aa34e6cb6bfa329e1", func := "haulage/haulagelaw08.SchemaRows", spec := "schemaRows", unfollowed := true, recurses := true, named := ["haulage/utf.least"], apart := false, laid := [("haulage/utf.least", laid_haulage_utf_least)] }
def SchemaRowsSaid : Prop := schemaRowsRow.holds Tryd.pinned (OpenSpec.ofChange schemaRowsSpec)

/-- ITS FALSE NEIGHBOUR: 'it returns false'. Refute it at one input. -/
def schemaRowsWrong : ChangeSpec := { name := "schemaRows", fn := fun _ => fun
  | [d1, d2] => { results := [.lit (.bool false)], args := [d1, d2] }
  | _ => none }
def SchemaRowsWrongFalsely : Prop := schemaRowsRow.holds Tryd.pinned (OpenSpec.ofChange schemaRowsWrong)

/-- 'haulagelaw08.SchemaSets': WHATEVER THE INPUT: true; the input reads as it did. -/
def schemaSetsSpec : ChangeSpec := { name := "schemaSets", fn := fun _ => fun
  | [d1, d2, d3] => { results := [.lit (.bool true)], args := [d1, d2, d3] }
  | _ => none }
def schemaSetsRow : OpenClaim := { program := "ytdeophpjammbpaadoor", sum := "b890f2393b4aa4351b4906b5126ffe1e837904e16d1d732aa34e6cb6bfa329e1", func := "haulage/haulagelaw08.SchemaSets", spec := "schemaSets", unfollowed := true, recurses := true, named := ["haulage/utf.least"], apart := false, laid := [("haulage/utf.least", laid_haulage_utf_least)] }
def SchemaSetsSaid : Prop := schemaSetsRow.holds Tryd.pinned (OpenSpec.ofChange schemaSetsSpec)

/-- ITS FALSE NEIGHBOUR: 'it returns false'. Refute it at one input. -/
def schemaSetsWrong : ChangeSpec := { name := "schemaSets", fn := fun _ => fun
  | [d1, d2, d3] => { results := [.lit (.bool false)], args := [d1, d2, d3] }
  | _ => none }
def SchemaSetsWrongFalsely : Prop := schemaSetsRow.holds Tryd.pinned (OpenSpec.ofChange schemaSetsWrong)

/-- 'haulagelaw08.SchemaFinds': WHATEVER THE INPUT: true; the input reads as it did. -/
def schemaFindsSpec : ChangeSpec := { name := "schemaFinds", fn := fun _ => fun
  | [d1, d2, d3, d4] => { results := [.lit (.bool true)], args := [d1, d2, d3, d4] }
  | _ => none }
def schemaFindsRow : OpenClaim := { program := "ytdeophpjammbpaadoor", sum := "b890f2393b4aa4351b4906b5126ffe1e837904e16d1d732aa34e6cb6bfa329e1", func := "haulage/haulagelaw08.SchemaFinds", spec := "schemaFinds", unfollowed := true, recurses := true, named := ["haulage/utf.least"], apart := false, laid := [("haulage/utf.least", laid_haulage_utf_least)] }
def SchemaFindsSaid : Prop := schemaFindsRow.holds Tryd.pinned (OpenSpec.ofChange schemaFindsSpec)

/-- ITS FALSE NEIGHBOUR: 'it returns false'. Refute it at one input. -/
def schemaFindsWrong : ChangeSpec := { name := "schemaFinds", fn := fun _ => fun
  | [d1, d2, d3, d4] => { results := [.lit (.bool false)], args := [d1, d2, d3, d4] }
  | _ => none }
def SchemaFindsWrongFalsely : Prop := schemaFindsRow.holds Tryd.pinned (OpenSpec.ofChange schemaFindsWrong)

/-- 'haulagelaw12.RowcodeDecodes': WHATEVER THE INPUT: true; the input reads as it did. -/
def rowcodeDecodesSpec : ChangeSpec := { name := "rowcodeDecodes", fn := fun _ => fun
  | [d1, d2] => { results := [.lit (.bool true)], args := [d1, d2] }
  | _ => none }
def rowcodeDecodesRow : OpenClaim := { program := "ytdeophpjammbpaadoor", sum := "b890f2393b4aa4351b4906b5126ffe1e837904e16d1d732aa34e6cb6bfa329e1", func := "haulage/haulagelaw12.RowcodeDecodes", spec := "rowcodeDecodes", unfollowed := true, recurses := true, named := ["haulage/utf.least"], apart := false, laid := [("haulage/utf.least", laid_haulage_utf_least)] }
def RowcodeDecodesSaid : Prop := rowcodeDecodesRow.holds Tryd.pinned (OpenSpec.ofChange rowcodeDecodesSpec)

/-- ITS FALSE NEIGHBOUR: 'it returns false'. Refute it at one input. -/
def rowcodeDecodesWrong : ChangeSpec := { name := "rowcodeDecodes", fn := fun _ => fun
  | [d1, d2] => { results := [.lit (.bool false)], args := [d1, d2] }
  | _ => none }
def RowcodeDecodesWrongFalsely : Prop := rowcodeDecodesRow.holds Tryd.pinned (OpenSpec.ofChange rowcodeDecodesWrong)

/-- 'haulagelaw12.RowcodeBack': WHATEVER THE INPUT: true; the input reads as it did. -/
def rowcodeBackSpec : ChangeSpec := { name := "rowcodeBack", fn := fun _ => fun
  | [d1, d2, d3] => { results := [.lit (.bool true)], args := [d1, d2, d3] }
  | _ => none }
def rowcodeBackRow : OpenClaim := { program := "ytdeophpjammbpaadoor", sum := "b890f2393b4aa4351b4906b5126ffe1e837904e16d1d732aa34e6cb6bfa329e1", func := "haulage/haulagelaw12.RowcodeBack", spec := "rowcodeBack", unfollowed := true, recurses := true, named := ["haulage/utf.least"], apart := false, laid := [("haulage/utf.least", laid_haulage_utf_least)] }
def RowcodeBackSaid : Prop := rowcodeBackRow.holds Tryd.pinned (OpenSpec.ofChange rowcodeBackSpec)

/-- ITS FALSE NEIGHBOUR: 'it returns false'. Refute it at one input. -/
def rowcodeBackWrong : ChangeSpec := { name := "rowcodeBack", fn := fun _ => fun
  | [d1, d2, d3] => { results := [.lit (.bool false)], args := [d1, d2, d3] }
  | _ => none }
def RowcodeBackWrongFalsely : Prop := rowcodeBackRow.holds Tryd.pinned (OpenSpec.ofChange rowcodeBackWrong)

/-- 'haulagelaw12.RowcodeTypes': WHATEVER THE INPUT: true; the input reads as it did. -/
def rowcodeTypesSpec : ChangeSpec := { name := "rowcodeTypes", fn := fun _ => fun
  | [d1, d2, d3, d4] => { results := [.lit (.bool true)], args := [d1, d2, d3, d4] }
  | _ => none }
def rowcodeTypesRow : OpenClaim := { program := "ytdeophpjammbpaadoor", sum := "b890f2393b4aa4351b4906b5126ffe1e837904e16d1d732aa34e6cb6bfa329e1", func := "haulage/haulagelaw12.RowcodeTypes", spec := "rowcodeTypes", unfollowed := true, recurses := true, named := ["haulage/utf.least"], apart := false, laid := [("haulage/utf.least", laid_haulage_utf_least)] }
def RowcodeTypesSaid : Prop := rowcodeTypesRow.holds Tryd.pinned (OpenSpec.ofChange rowcodeTypesSpec)

/-- ITS FALSE NEIGHBOUR: 'it returns false'. Refute it at one input. -/
def rowcodeTypesWrong : ChangeSpec := { name := "rowcodeTypes", fn := fun _ => fun
  | [d1, d2, d3, d4] => { results := [.lit (.bool false)], args := [d1, d2, d3, d4] }
  | _ => none }
def RowcodeTypesWrongFalsely : Prop := rowcodeTypesRow.holds Tryd.pinned (OpenSpec.ofChange rowcodeTypesWrong)

/-- 'haulagelaw12.RowcodeKeys': WHATEVER THE INPUT: true; the input reads as it did. -/
def rowcodeKeysSpec : ChangeSpec := { name := "rowcodeKeys", fn := fun _ => fun
  | [d1, d2, d3] => { results := [.lit (.bool true)], args := [d1, d2, d3] }
  | _ => none }
def rowcodeKeysRow : OpenClaim := { program := "ytdeophpjammbpaadoor", sum := "b890f2393b4aa4351b4906b5126ffe1e837904e16d1d732aa34e6cb6bfa329e1", func := "haulage/haulagelaw12.RowcodeKeys", spec := "rowcodeKeys", unfollowed := true, recurses := true, named := ["haulage/utf.least"], apart := false, laid := [("haulage/utf.least", laid_haulage_utf_least)] }
def RowcodeKeysSaid : Prop := rowcodeKeysRow.holds Tryd.pinned (OpenSpec.ofChange rowcodeKeysSpec)

/-- ITS FALSE NEIGHBOUR: 'it returns false'. Refute it at one input. -/
def rowcodeKeysWrong : ChangeSpec := { name := "rowcodeKeys", fn := fun _ => fun
  | [d1, d2, d3] => { results := [.lit (.bool false)], args := [d1, d2, d3] }
  | _ => none }
def RowcodeKeysWrongFalsely : Prop := rowcodeKeysRow.holds Tryd.pinned (OpenSpec.ofChange rowcodeKeysWrong)

/- THE SECOND FORM. 'bulk': how many values and letters a reading holds, each counted each time it is reached (what is shared counts as often as it is met; a slice's spare places count too). A statement '..UptoSaid' is the law's where the arguments, and the package variables that the reading takes, are together of bulk at most 1048576: NARROWER than '..Said'. Prove '..Said' where nothing that the law and all that it calls make is longer than what came in: it says more and counts as full. Else prove '..UptoSaid'. A law counts once. -/
mutual
def uptoBulk {H : Type} : DataW H → Nat
  | .lit (.string bytes) => bytes.length + 1
  | .lit _ => 1
  | .nil => 1
  | .ptr d => uptoBulk d + 1
  | .slice elems spare => uptoBulkAll elems + uptoBulkAll spare + 1
  | .agg parts => uptoBulkAll parts + 1
  | .iface _ d => uptoBulk d + 1
  | .map entries => uptoBulkEntries entries + 1
  | .held _ => 1
def uptoBulkAll {H : Type} : List (DataW H) → Nat
  | [] => 0
  | d :: r => uptoBulk d + uptoBulkAll r
def uptoBulkEntries {H : Type} : List (Lit × DataW H) → Nat
  | [] => 0
  | x :: r => uptoBulkEntry x + uptoBulkEntries r
def uptoBulkEntry {H : Type} : Lit × DataW H → Nat
  | (.string bytes, d) => bytes.length + uptoBulk d + 1
  | (_, d) => uptoBulk d + 1
 end
def uptoSmall : (H : Type) → List (DataW H) → Bool := fun _ ds => decide (uptoBulkAll ds ≤ 1048576)
def OpenSpec.upto (s : _root_.Go.ChangeSpec) : _root_.Go.OpenSpec := { _root_.Go.OpenSpec.ofChange s with cond := some uptoSmall }

/-- 'haulagelaw12.RowcodeEncodes', WHERE WHAT IT READS IS OF BULK AT MOST 1048576: true; the input reads as it did. -/
def rowcodeEncodesUptoRow : OpenClaim := { program := "ytdeophpjammbpaadoor", sum := "b890f2393b4aa4351b4906b5126ffe1e837904e16d1d732aa34e6cb6bfa329e1", func := "haulage/haulagelaw12.RowcodeEncodes", spec := "rowcodeEncodes", unfollowed := true, recurses := true, named := ["haulage/utf.least"], apart := false, laid := [("haulage/utf.least", laid_haulage_utf_least)], narrowed := true }
def RowcodeEncodesUptoSaid : Prop := rowcodeEncodesUptoRow.holds Tryd.pinned (OpenSpec.upto rowcodeEncodesSpec)

/-- 'haulagelaw08.SchemaFills', WHERE WHAT IT READS IS OF BULK AT MOST 1048576: true; the input reads as it did. -/
def schemaFillsUptoRow : OpenClaim := { program := "ytdeophpjammbpaadoor", sum := "b890f2393b4aa4351b4906b5126ffe1e837904e16d1d732aa34e6cb6bfa329e1", func := "haulage/haulagelaw08.SchemaFills", spec := "schemaFills", unfollowed := true, recurses := true, named := ["haulage/utf.least"], apart := false, laid := [("haulage/utf.least", laid_haulage_utf_least)], narrowed := true }
def SchemaFillsUptoSaid : Prop := schemaFillsUptoRow.holds Tryd.pinned (OpenSpec.upto schemaFillsSpec)

/-- 'haulagelaw08.SchemaRight', WHERE WHAT IT READS IS OF BULK AT MOST 1048576: true; the input reads as it did. -/
def schemaRightUptoRow : OpenClaim := { program := "ytdeophpjammbpaadoor", sum := "b890f2393b4aa4351b4906b5126ffe1e837904e16d1d732aa34e6cb6bfa329e1", func := "haulage/haulagelaw08.SchemaRight", spec := "schemaRight", unfollowed := true, recurses := true, named := ["haulage/utf.least"], apart := false, laid := [("haulage/utf.least", laid_haulage_utf_least)], narrowed := true }
def SchemaRightUptoSaid : Prop := schemaRightUptoRow.holds Tryd.pinned (OpenSpec.upto schemaRightSpec)

/-- 'haulagelaw08.SchemaRows', WHERE WHAT IT READS IS OF BULK AT MOST 1048576: true; the input reads as it did. -/
def schemaRowsUptoRow : OpenClaim := { program := "ytdeophpjammbpaadoor", sum := "b890f2393b4aa4351b4906b5126ffe1e837904e16d1d732aa34e6cb6bfa329e1", func := "haulage/haulagelaw08.SchemaRows", spec := "schemaRows", unfollowed := true, recurses := true, named := ["haulage/utf.least"], apart := false, laid := [("haulage/utf.least", laid_haulage_utf_least)], narrowed := true }
def SchemaRowsUptoSaid : Prop := schemaRowsUptoRow.holds Tryd.pinned (OpenSpec.upto schemaRowsSpec)

/-- 'haulagelaw08.SchemaSets', WHERE WHAT IT READS IS OF BULK AT MOST 1048576: true; the input reads as it did. -/
def schemaSetsUptoRow : OpenClaim := { program := "ytdeophpjammbpaadoor", sum := "b890f2393b4aa4351b4906b5126ffe1e837904e16d1d732aa34e6cb6bfa329e1", func := "haulage/haulagelaw08.SchemaSets", spec := "schemaSets", unfollowed := true, recurses := true, named := ["haulage/utf.least"], apart := false, laid := [("haulage/utf.least", laid_haulage_utf_least)], narrowed := true }
def SchemaSetsUptoSaid : Prop := schemaSetsUptoRow.holds Tryd.pinned (OpenSpec.upto schemaSetsSpec)

/-- 'haulagelaw08.SchemaFinds', WHERE WHAT IT READS IS OF BULK AT MOST 1048576: true; the input reads as it did. -/
def schemaFindsUptoRow : OpenClaim := { program := "ytdeophpjammbpaadoor", sum := "b890f2393b4aa4351b4906b5126ffe1e837904e16d1d732aa34e6cb6bfa329e1", func := "haulage/haulagelaw08.SchemaFinds", spec := "schemaFinds", unfollowed := true, recurses := true, named := ["haulage/utf.least"], apart := false, laid := [("haulage/utf.least", laid_haulage_utf_least)], narrowed := true }
def SchemaFindsUptoSaid : Prop := schemaFindsUptoRow.holds Tryd.pinned (OpenSpec.upto schemaFindsSpec)

/-- 'haulagelaw12.RowcodeDecodes', WHERE WHAT IT READS IS OF BULK AT MOST 1048576: true; the input reads as it did. -/
def rowcodeDecodesUptoRow : OpenClaim := { program := "ytdeophpjammbpaadoor", sum := "b890f2393b4aa4351b4906b5126ffe1e837904e16d1d732aa34e6cb6bfa329e1", func := "haulage/haulagelaw12.RowcodeDecodes", spec := "rowcodeDecodes", unfollowed := true, recurses := true, named := ["haulage/utf.least"], apart := false, laid := [("haulage/utf.least", laid_haulage_utf_least)], narrowed := true }
def RowcodeDecodesUptoSaid : Prop := rowcodeDecodesUptoRow.holds Tryd.pinned (OpenSpec.upto rowcodeDecodesSpec)

/-- 'haulagelaw12.RowcodeBack', WHERE WHAT IT READS IS OF BULK AT MOST 1048576: true; the input reads as it did. -/
def rowcodeBackUptoRow : OpenClaim := { program := "ytdeophpjammbpaadoor", sum := "b890f2393b4aa4351b4906b5126ffe1e837904e16d1d732aa34e6cb6bfa329e1", func := "haulage/haulagelaw12.RowcodeBack", spec := "rowcodeBack", unfollowed := true, recurses := true, named := ["haulage/utf.least"], apart := false, laid := [("haulage/utf.least", laid_haulage_utf_least)], narrowed := true }
def RowcodeBackUptoSaid : Prop := rowcodeBackUptoRow.holds Tryd.pinned (OpenSpec.upto rowcodeBackSpec)

/-- 'haulagelaw12.RowcodeTypes', WHERE WHAT IT READS IS OF BULK AT MOST 1048576: true; the input reads as it did. -/
def rowcodeTypesUptoRow : OpenClaim := { program := "ytdeophpjammbpaadoor", sum := "b890f2393b4aa4351b4906b5126ffe1e837904e16d1d732aa34e6cb6bfa329e1", func := "haulage/haulagelaw12.RowcodeTypes", spec := "rowcodeTypes", unfollowed := true, recurses := true, named := ["haulage/utf.least"], apart := false, laid := [("haulage/utf.least", laid_haulage_utf_least)], narrowed := true }
def RowcodeTypesUptoSaid : Prop := rowcodeTypesUptoRow.holds Tryd.pinned (OpenSpec.upto rowcodeTypesSpec)

/-- 'haulagelaw12.RowcodeKeys', WHERE WHAT IT READS IS OF BULK AT MOST 1048576: true; the input reads as it did. -/
def rowcodeKeysUptoRow : OpenClaim := { program := "ytdeophpjammbpaadoor", sum := "b890f2393b4aa4351b4906b5126ffe1e837904e16d1d732aa34e6cb6bfa329e1", func := "haulage/haulagelaw12.RowcodeKeys", spec := "rowcodeKeys", unfollowed := true, recurses := true, named := ["haulage/utf.least"], apart := false, laid := [("haulage/utf.least", laid_haulage_utf_least)], narrowed := true }
def RowcodeKeysUptoSaid : Prop := rowcodeKeysUptoRow.holds Tryd.pinned (OpenSpec.upto rowcodeKeysSpec)

end Rows
end Go.Proofs.YtdeophpjammbpaaDoor

/-
  NARROWER THAN 'FOR EVERY INPUT', by the rows' own cells (each row's printed sentence says how): WalrecPacks: laid · WalrecUnpacks: laid.
  DERIVED. THE GIVEN ROWS OF THIS SEAT. 2 by the template 'for every input the law returns true; each argument reads behind the call as it read before'; 0 by the template 'total and deterministic' (their statements: YtgefikclhfjcgaaGreatDoorTotals.lean).
  GIVEN WITH THE SEED: the statements are not yours to turn. If you find one false, say at which input.
  Laid BY PROGRAM, IN A SANDBOX (cutbox-rows.mjs): the forced cells as the released guide's own fill.sh prints them over the translation 1465091817d6840c… (all of the seat's roots in one cut). By AI agents, Wed Nov 11 2026. No macro, syntax, notation, axiom, sorry.
-/
import Derived.Test.YtgefikclhfjcgaaGreatDoorChecked
import GoSem.Claim
import GoSem.ClaimJoined
import GoSem.ClaimMapViews
import Derived.JoinedTies
import Derived.KernelRfl
namespace Go.Proofs.YtgefikclhfjcgaaGreatDoor
/- THE CELL 'sum', in the pinned program and in every row, IS THE sha256 OF THE DUMP (.gsa) THAT YtgefikclhfjcgaaGreatDoorProg.lean LOADS. Nothing in Lean hashes anything: it is a label: what it is worth is what the hold of that sum in a sandbox is worth. -/
noncomputable def Tryz.pinned : Pinned := { name := "ytgefikclhfjcgaagreatdoor", sum := "1465091817d6840c1b4cd935aa8d524cbd6d08fad666c37e0de351aa23f91359", checked := Tryz.checked }
namespace Rows
def none {H : Type} : Left H := { results := [], args := [] }

/- WHAT THE LISTED PACKAGE-LEVEL VARIABLES READ AS WHEN THE CALL BEGINS. Each datum BY PROGRAM (the guide's laid-datum.mjs) off the statement by which the dump's own 'gosem.cut.vars' lays the variable. In a bare row this is a premise. The card (YtgefikclhfjcgaaGreatDoorCards.lean) ties it to the program's text. -/
def laid_haulage_utf_least {H : Type} : DataW H := .agg [.lit (.int .i64 0), .lit (.int .i64 0), .lit (.int .i64 128), .lit (.int .i64 2048), .lit (.int .i64 65536)]
def laid_haulage_walrec_words {H : Type} : DataW H := .agg [.lit (.string []), .lit (.string [98, 101, 103, 105, 110]), .lit (.string [105, 110, 115, 101, 114, 116]), .lit (.string [117, 112, 100, 97, 116, 101]), .lit (.string [100, 101, 108, 101, 116, 101]), .lit (.string [100, 100, 108]), .lit (.string [99, 111, 109, 109, 105, 116]), .lit (.string [97, 98, 111, 114, 116]), .lit (.string [114, 101, 115, 101, 116])]

/-- 'haulagelaw18.WalrecPacks': WHATEVER THE INPUT: true; the input reads as it did. -/
def walrecPacksSpec : ChangeSpec := { name := "walrecPacks", fn := fun _ => fun
  | [d1, d2, d3] => { results := [.lit (.bool true)], args := [d1, d2, d3] }
  | _ => none }
def walrecPacksRow : OpenClaim := { program := "ytgefikclhfjcgaagreatdoor", sum := "1465091817d6840c1b4cd935aa8d524cbd6d08fad666c37e0de351aa23f91359", func := "haulage/haulagelaw18.WalrecPacks", spec := "walrecPacks", unfollowed := true, recurses := true, named := ["haulage/walrec.words", "haulage/utf.least"], apart := false, laid := [("haulage/utf.least", laid_haulage_utf_least), ("haulage/walrec.words", laid_haulage_walrec_words)] }
def WalrecPacksSaid : Prop := walrecPacksRow.holds Tryz.pinned (OpenSpec.ofChange walrecPacksSpec)

/-- ITS FALSE NEIGHBOUR: 'it returns false'. Refute it at one input. -/
def walrecPacksWrong : ChangeSpec := { name := "walrecPacks", fn := fun _ => fun
  | [d1, d2, d3] => { results := [.lit (.bool false)], args := [d1, d2, d3] }
  | _ => none }
def WalrecPacksWrongFalsely : Prop := walrecPacksRow.holds Tryz.pinned (OpenSpec.ofChange walrecPacksWrong)

/-- 'haulagelaw18.WalrecUnpacks': WHATEVER THE INPUT: true; the input reads as it did. -/
def walrecUnpacksSpec : ChangeSpec := { name := "walrecUnpacks", fn := fun _ => fun
  | [d1, d2, d3] => { results := [.lit (.bool true)], args := [d1, d2, d3] }
  | _ => none }
def walrecUnpacksRow : OpenClaim := { program := "ytgefikclhfjcgaagreatdoor", sum := "1465091817d6840c1b4cd935aa8d524cbd6d08fad666c37e0de351aa23f91359", func := "haulage/haulagelaw18.WalrecUnpacks", spec := "walrecUnpacks", unfollowed := true, recurses := true, named := ["haulage/walrec.words", "haulage/utf.least"], apart := false, laid := [("haulage/utf.least", laid_haulage_utf_least), ("haulage/walrec.words", laid_haulage_walrec_words)] }
def WalrecUnpacksSaid : Prop := walrecUnpacksRow.holds Tryz.pinned (OpenSpec.ofChange walrecUnpacksSpec)

/-- ITS FALSE NEIGHBOUR: 'it returns false'. Refute it at one input. -/
def walrecUnpacksWrong : ChangeSpec := { name := "walrecUnpacks", fn := fun _ => fun
  | [d1, d2, d3] => { results := [.lit (.bool false)], args := [d1, d2, d3] }
  | _ => none }
def WalrecUnpacksWrongFalsely : Prop := walrecUnpacksRow.holds Tryz.pinned (OpenSpec.ofChange walrecUnpacksWrong)

/- THE SECOND FORM. 'bulk': how many values and letters a reading holds, each counted each time it is reached (what is shared counts as often as it is met; a slice's spare places count too). A statement '..UptoSaid' is the law's where the arguments, and the package variables that the reading takes, are together of bulk at most 1048576: NARROWER than '..Said'. Prove '..Said' where nothing that the law and all that it calls make is longer than what came in: it says more and counts as full. Else prove '..UptoSaid'. A law counts once. -/
mutual
def uptoBulk {H : Type} : DataW H → Nat
  | .lit (.string bytes) => bytes.length + 1
  | .lit _ => 1
  | .nil => 1
  | .ptr d => uptoBulk d + 1
  | .slice elems spare => uptoBulkAll elems + uptoBulkAll spare + 1
  | .agg parts => uptoBulkAll parts + 1
  | .iface _ d => uptoBulk d + 1
  | .map entries => uptoBulkEntries entries + 1
  | .held _ => 1
def uptoBulkAll {H : Type} : List (DataW H) → Nat
  | [] => 0
  | d :: r => uptoBulk d + uptoBulkAll r
def uptoBulkEntries {H : Type} : List (Lit × DataW H) → Nat
  | [] => 0
  | x :: r => uptoBulkEntry x + uptoBulkEntries r
def uptoBulkEntry {H : Type} : Lit × DataW H → Nat
  | (.string bytes, d) => bytes.length + uptoBulk d + 1
  | (_, d) => uptoBulk d + 1
 end
def uptoSmall : (H : Type) → List (DataW H) → Bool := fun _ ds => decide (uptoBulkAll ds ≤ 1048576)
def OpenSpec.upto (s : _root_.Go.ChangeSpec) : _root_.Go.OpenSpec := { _root_.Go.OpenSpec.ofChange s with cond := some uptoSmall }

/-- 'haulagelaw18.WalrecPacks', WHERE WHAT IT READS IS OF BULK AT MOST 1048576: true; the input reads as it did. -/
def walrecPacksUptoRow : OpenClaim := { program := "ytgefikclhfjcgaagreatdoor", sum := "1465091817d6840c1b4cd935aa8d524cbd6d08fad666c37e0de351aa23f91359", func := "haulage/haulagelaw18.WalrecPacks", spec := "walrecPacks", unfollowed := true, recurses := true, named := ["haulage/walrec.words", "haulage/utf.least"], apart := false, laid := [("haulage/utf.least", laid_haulage_utf_least), ("haulage/walrec.words", laid_haulage_walrec_words)], narrowed := true }
def WalrecPacksUptoSaid : Prop := walrecPacksUptoRow.holds Tryz.pinned (OpenSpec.upto walrecPacksSpec)

/-- 'haulagelaw18.WalrecUnpacks', WHERE WHAT IT READS IS OF BULK AT MOST 1048576: true; the input reads as it did. -/
def walrecUnpacksUptoRow : OpenClaim := { program := "ytgefikclhfjcgaagreatdoor", sum := "1465091817d6840c1b4cd935aa8d524cbd6d08fad666c37e0de351aa23f91359", func := "haulage/haulagelaw18.WalrecUnpacks", spec := "walrecUnpacks", unfollowed := true, recurses := true, named := ["haulage/walrec.words", "haulage/utf.least"], apart := false, laid := [("haulage/utf.least", laid_haulage_utf_least), ("haulage/walrec.words", laid_haulage_walrec_words)], narrowed := true }
def WalrecUnpacksUptoSaid : Prop := walrecUnpacksUptoRow.holds Tryz.pinned (OpenSpec.upto walrecUnpacksSpec)

end Rows
end Go.Proofs.YtgefikclhfjcgaaGreatDoor

/-
  NARROWER THAN 'FOR EVERY INPUT', by the rows' own cells (each row's printed sentence says how): OffsetBytes: laid · WalrecBytes: laid · WalrecBack: laid.
  DERIVED. THE GIVEN ROWS OF THIS SEAT. 3 by the template 'for every input the law returns true; each argument reads behind the call as it read before'; 0 by the template 'total and deterministic' (their statements: YtjkjpjbohiggaabDoorTotals.lean).
  GIVEN WITH THE SEED: the statements are not yours to turn. If you find one false, say at which input.
  Laid BY PROGRAM, IN A SANDBOX (cutbox-rows.mjs): the forced cells as the released guide's own fill.sh prints them over the translation 6ef59c8b61826b71… (all of the seat's roots in one cut). By AI agents, Wed Nov 11 2026. No macro, syntax, notation, axiom, sorry.
-/
import Derived.Test.YtjkjpjbohiggaabDoorChecked
import GoSem.Claim
import GoSem.ClaimJoined
import GoSem.ClaimMapViews
import Derived.JoinedTies
import Derived.KernelRfl
namespace Go.Proofs.YtjkjpjbohiggaabDoor
/- THE CELL 'sum', in the pinned program and in every row, IS THE sha256 OF THE DUMP (.gsa) THAT YtjkjpjbohiggaabDoorProg.lean LOADS. Nothing in Lean hashes anything: it is a label: what it is worth is what the hold of that sum in a sandbox is worth. -/
noncomputable def Tryd.pinned : Pinned := { name := "ytjkjpjbohiggaabdoor", sum := "6ef59c8b61826b713ae217d897f96f8649bcd3176cd04cea56c8822f078b1f7f", checked := Tryd.checked }
namespace Rows
def none {H : Type} : Left H := { results := [], args := [] }

/- WHAT THE LISTED PACKAGE-LEVEL VARIABLES READ AS WHEN THE CALL BEGINS. Each datum BY PROGRAM (the guide's laid-datum.mjs) off the statement by which the dump's own 'gosem.cut.vars' lays the variable. In a bare row this is a premise. The card (YtjkjpjbohiggaabDoorCards.lean) ties it to the program's text. -/
def laid_haulage_sum_halves {H : Type} : DataW H := .agg [.lit (.int .u32 0), .lit (.int .u32 274646895), .lit (.int .u32 549293790), .lit (.int .u32 820201905), .lit (.int .u32 1098587580), .lit (.int .u32 1361435347), .lit (.int .u32 1640403810), .lit (.int .u32 1905808397), .lit (.int .u32 2197175160), .lit (.int .u32 2460548119), .lit (.int .u32 2722870694), .lit (.int .u32 2987750089), .lit (.int .u32 3280807620), .lit (.int .u32 3553878443), .lit (.int .u32 3811616794), .lit (.int .u32 4084100981)]
def laid_haulage_walrec_words {H : Type} : DataW H := .agg [.lit (.string []), .lit (.string [98, 101, 103, 105, 110]), .lit (.string [105, 110, 115, 101, 114, 116]), .lit (.string [117, 112, 100, 97, 116, 101]), .lit (.string [100, 101, 108, 101, 116, 101]), .lit (.string [100, 100, 108]), .lit (.string [99, 111, 109, 109, 105, 116]), .lit (.string [97, 98, 111, 114, 116]), .lit (.string [114, 101, 115, 101, 116])]

/-- 'haulagelaw26.OffsetBytes': WHATEVER THE INPUT: true; the input reads as it did. -/
def offsetBytesSpec : ChangeSpec := { name := "offsetBytes", fn := fun _ => fun
  | [d1, d2] => { results := [.lit (.bool true)], args := [d1, d2] }
  | _ => none }
def offsetBytesRow : OpenClaim := { program := "ytjkjpjbohiggaabdoor", sum := "6ef59c8b61826b713ae217d897f96f8649bcd3176cd04cea56c8822f078b1f7f", func := "haulage/haulagelaw26.OffsetBytes", spec := "offsetBytes", recurses := true, named := ["haulage/sum.halves"], apart := false, laid := [("haulage/sum.halves", laid_haulage_sum_halves)] }
def OffsetBytesSaid : Prop := offsetBytesRow.holds Tryd.pinned (OpenSpec.ofChange offsetBytesSpec)

/-- ITS FALSE NEIGHBOUR: 'it returns false'. Refute it at one input. -/
def offsetBytesWrong : ChangeSpec := { name := "offsetBytes", fn := fun _ => fun
  | [d1, d2] => { results := [.lit (.bool false)], args := [d1, d2] }
  | _ => none }
def OffsetBytesWrongFalsely : Prop := offsetBytesRow.holds Tryd.pinned (OpenSpec.ofChange offsetBytesWrong)

/-- 'haulagelaw18.WalrecBytes': WHATEVER THE INPUT: true; the input reads as it did. -/
def walrecBytesSpec : ChangeSpec := { name := "walrecBytes", fn := fun _ => fun
  | [d1, d2] => { results := [.lit (.bool true)], args := [d1, d2] }
  | _ => none }
def walrecBytesRow : OpenClaim := { program := "ytjkjpjbohiggaabdoor", sum := "6ef59c8b61826b713ae217d897f96f8649bcd3176cd04cea56c8822f078b1f7f", func := "haulage/haulagelaw18.WalrecBytes", spec := "walrecBytes", recurses := true, named := ["haulage/walrec.words"], apart := false, laid := [("haulage/walrec.words", laid_haulage_walrec_words)] }
def WalrecBytesSaid : Prop := walrecBytesRow.holds Tryd.pinned (OpenSpec.ofChange walrecBytesSpec)

/-- ITS FALSE NEIGHBOUR: 'it returns false'. Refute it at one input. -/
def walrecBytesWrong : ChangeSpec := { name := "walrecBytes", fn := fun _ => fun
  | [d1, d2] => { results := [.lit (.bool false)], args := [d1, d2] }
  | _ => none }
def WalrecBytesWrongFalsely : Prop := walrecBytesRow.holds Tryd.pinned (OpenSpec.ofChange walrecBytesWrong)

/-- 'haulagelaw18.WalrecBack': WHATEVER THE INPUT: true; the input reads as it did. -/
def walrecBackSpec : ChangeSpec := { name := "walrecBack", fn := fun _ => fun
  | [d1, d2] => { results := [.lit (.bool true)], args := [d1, d2] }
  | _ => none }
def walrecBackRow : OpenClaim := { program := "ytjkjpjbohiggaabdoor", sum := "6ef59c8b61826b713ae217d897f96f8649bcd3176cd04cea56c8822f078b1f7f", func := "haulage/haulagelaw18.WalrecBack", spec := "walrecBack", named := ["haulage/walrec.words"], apart := false, laid := [("haulage/walrec.words", laid_haulage_walrec_words)] }
def WalrecBackSaid : Prop := walrecBackRow.holds Tryd.pinned (OpenSpec.ofChange walrecBackSpec)

/-- ITS FALSE NEIGHBOUR: 'it returns false'. Refute it at one input. -/
def walrecBackWrong : ChangeSpec := { name := "walrecBack", fn := fun _ => fun
  | [d1, d2] => { results := [.lit (.bool false)], args := [d1, d2] }
  | _ => none }
def WalrecBackWrongFalsely : Prop := walrecBackRow.holds Tryd.pinned (OpenSpec.ofChange walrecBackWrong)

/- THE SECOND FORM. 'bulk': how many values and letters a reading holds, each counted each time it is reached (what is shared counts as often as it is met; a slice's spare places count too). A statement '..UptoSaid' is the law's where the arguments, and the package variables that the reading takes, are together of bulk at most 1048576: NARROWER than '..Said'. Prove '..Said' where nothing that the law and all that it calls make is longer than what came in: it says more and counts as full. Else prove '..UptoSaid'. A law counts once. -/
mutual
def uptoBulk {H : Type} : DataW H → Nat
  | .lit (.string bytes) => bytes.length + 1
  | .lit _ => 1
  | .nil => 1
  | .ptr d => uptoBulk d + 1
  | .slice elems spare => uptoBulkAll elems + uptoBulkAll spare + 1
  | .agg parts => uptoBulkAll parts + 1
  | .iface _ d => uptoBulk d + 1
  | .map entries => uptoBulkEntries entries + 1
  | .held _ => 1
def uptoBulkAll {H : Type} : List (DataW H) → Nat
  | [] => 0
  | d :: r => uptoBulk d + uptoBulkAll r
def uptoBulkEntries {H : Type} : List (Lit × DataW H) → Nat
  | [] => 0
  | x :: r => uptoBulkEntry x + uptoBulkEntries r
def uptoBulkEntry {H : Type} : Lit × DataW H → Nat
  | (.string bytes, d) => bytes.length + uptoBulk d + 1
  | (_, d) => uptoBulk d + 1
 end
def uptoSmall : (H : Type) → List (DataW H) → Bool := fun _ ds => decide (uptoBulkAll ds ≤ 1048576)
def OpenSpec.upto (s : _root_.Go.ChangeSpec) : _root_.Go.OpenSpec := { _root_.Go.OpenSpec.ofChange s with cond := some uptoSmall }

/-- 'haulagelaw26.OffsetBytes', WHERE WHAT IT READS IS OF BULK AT MOST 1048576: true; the input reads as it did. -/
def offsetBytesUptoRow : OpenClaim := { program := "ytjkjpjbohiggaabdoor", sum := "6ef59c8b61826b713ae217d897f96f8649bcd3176cd04cea56c8822f078b1f7f", func := "haulage/haulagelaw26.OffsetBytes", spec := "offsetBytes", recurses := true, named := ["haulage/sum.halves"], apart := false, laid := [("haulage/sum.halves", laid_haulage_sum_halves)], narrowed := true }
def OffsetBytesUptoSaid : Prop := offsetBytesUptoRow.holds Tryd.pinned (OpenSpec.upto offsetBytesSpec)

/-- 'haulagelaw18.WalrecBytes', WHERE WHAT IT READS IS OF BULK AT MOST 1048576: true; the input reads as it did. -/
def walrecBytesUptoRow : OpenClaim := { program := "ytjkjpjbohiggaabdoor", sum := "6ef59c8b61826b713ae217d897f96f8649bcd3176cd04cea56c8822f078b1f7f", func := "haulage/haulagelaw18.WalrecBytes", spec := "walrecBytes", recurses := true, named := ["haulage/walrec.words"], apart := false, laid := [("haulage/walrec.words", laid_haulage_walrec_words)], narrowed := true }
def WalrecBytesUptoSaid : Prop := walrecBytesUptoRow.holds Tryd.pinned (OpenSpec.upto walrecBytesSpec)

/-- 'haulagelaw18.WalrecBack', WHERE WHAT IT READS IS OF BULK AT MOST 1048576: true; the input reads as it did. -/
def walrecBackUptoRow : OpenClaim := { program := "ytjkjpjbohiggaabdoor", sum := "6ef59c8b61826b713ae217d897f96f8649bcd3176cd04cea56c8822f078b1f7f", func := "haulage/haulagelaw18.WalrecBack", spec := "walrecBack", named := ["haulage/walrec.words"], apart := false, laid := [("haulage/walrec.words", laid_haulage_walrec_words)], narrowed := true }
def WalrecBackUptoSaid : Prop := walrecBackUptoRow.holds Tryd.pinned (OpenSpec.upto walrecBackSpec)

end Rows
end Go.Proofs.YtjkjpjbohiggaabDoor

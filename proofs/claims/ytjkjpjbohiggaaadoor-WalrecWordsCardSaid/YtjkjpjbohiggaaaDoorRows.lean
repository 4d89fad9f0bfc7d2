/-
  NARROWER THAN 'FOR EVERY INPUT', by the rows' own cells (each row's printed sentence says how): SumOf: laid · SumMore: laid · SumMixes: laid · SumOpens: laid · SumTells: laid · WalrecWords: laid.
  DERIVED. THE GIVEN ROWS OF THIS SEAT. 6 by the template 'for every input the law returns true; each argument reads behind the call as it read before'; 0 by the template 'total and deterministic' (their statements: YtjkjpjbohiggaaaDoorTotals.lean).
  GIVEN WITH THE SEED: the statements are not yours to turn. If you find one false, say at which input.
  Laid BY PROGRAM, IN A SANDBOX (cutbox-rows.mjs): the forced cells as the released guide's own fill.sh prints them over the translation cbb470ea8d6a3666… (all of the seat's roots in one cut). By AI agents, Wed Nov 11 2026. No macro, syntax, notation, axiom, sorry.
-/
import Derived.Test.YtjkjpjbohiggaaaDoorChecked
import GoSem.Claim
import GoSem.ClaimJoined
import GoSem.ClaimMapViews
import Derived.JoinedTies
import Derived.KernelRfl
namespace Go.Proofs.YtjkjpjbohiggaaaDoor
/- THE CELL 'sum', in the pinned program and in every row, IS THE sha256 OF THE DUMP (.gsa) THAT YtjkjpjbohiggaaaDoorProg.lean LOADS. Nothing in Lean hashes anything: it is a label: what it is worth is what the hold of that sum in a sandbox is worth. -/
noncomputable def Tryd.pinned : Pinned := { name := "ytjkjpjbohiggaaadoor", sum := "cbb470ea8d6a3666fbaac004c97c4d1de9196c4f1c01c9fc72ac49dfabbb08a1", checked := Tryd.checked }
namespace Rows
def none {H : Type} : Left H := { results := [], args := [] }

/- WHAT THE LISTED PACKAGE-LEVEL VARIABLES READ AS WHEN THE CALL BEGINS. Each datum BY PROGRAM (the guide's laid-datum.mjs) off the statement by which the dump's own 'gosem.cut.vars' lays the variable. In a bare row this is a premise. The card (YtjkjpjbohiggaaaDoorCards.lean) ties it to the program's text. -/
def laid_haulage_sum_halves {H : Type} : DataW H := .agg [.lit (.int .u32 0), .lit (.int .u32 274646895), .lit (.int .u32 549293790), .lit (.int .u32 820201905), .lit (.int .u32 1098587580), .lit (.int .u32 1361435347), .lit (.int .u32 1640403810), .lit (.int .u32 1905808397), .lit (.int .u32 2197175160), .lit (.int .u32 2460548119), .lit (.int .u32 2722870694), .lit (.int .u32 2987750089), .lit (.int .u32 3280807620), .lit (.int .u32 3553878443), .lit (.int .u32 3811616794), .lit (.int .u32 4084100981)]
def laid_haulage_walrec_words {H : Type} : DataW H := .agg [.lit (.string []), .lit (.string [98, 101, 103, 105, 110]), .lit (.string [105, 110, 115, 101, 114, 116]), .lit (.string [117, 112, 100, 97, 116, 101]), .lit (.string [100, 101, 108, 101, 116, 101]), .lit (.string [100, 100, 108]), .lit (.string [99, 111, 109, 109, 105, 116]), .lit (.string [97, 98, 111, 114, 116]), .lit (.string [114, 101, 115, 101, 116])]

/-- 'haulagelaw02.SumOf': WHATEVER THE INPUT: true; the input reads as it did. -/
def sumOfSpec : ChangeSpec := { name := "sumOf", fn := fun _ => fun
  | [d1, d2] => { results := [.lit (.bool true)], args := [d1, d2] }
  | _ => none }
def sumOfRow : OpenClaim := { program := "ytjkjpjbohiggaaadoor", sum := "cbb470ea8d6a3666fbaac004c97c4d1de9196c4f1c01c9fc72ac49dfabbb08a1", func := "haulage/haulagelaw02.SumOf", spec := "sumOf", named := ["haulage/sum.halves"], apart := false, laid := [("haulage/sum.halves", laid_haulage_sum_halves)] }
def SumOfSaid : Prop := sumOfRow.holds Tryd.pinned (OpenSpec.ofChange sumOfSpec)

/-- ITS FALSE NEIGHBOUR: 'it returns false'. Refute it at one input. -/
def sumOfWrong : ChangeSpec := { name := "sumOf", fn := fun _ => fun
  | [d1, d2] => { results := [.lit (.bool false)], args := [d1, d2] }
  | _ => none }
def SumOfWrongFalsely : Prop := sumOfRow.holds Tryd.pinned (OpenSpec.ofChange sumOfWrong)

/-- 'haulagelaw02.SumMore': WHATEVER THE INPUT: true; the input reads as it did. -/
def sumMoreSpec : ChangeSpec := { name := "sumMore", fn := fun _ => fun
  | [d1, d2] => { results := [.lit (.bool true)], args := [d1, d2] }
  | _ => none }
def sumMoreRow : OpenClaim := { program := "ytjkjpjbohiggaaadoor", sum := "cbb470ea8d6a3666fbaac004c97c4d1de9196c4f1c01c9fc72ac49dfabbb08a1", func := "haulage/haulagelaw02.SumMore", spec := "sumMore", named := ["haulage/sum.halves"], apart := false, laid := [("haulage/sum.halves", laid_haulage_sum_halves)] }
def SumMoreSaid : Prop := sumMoreRow.holds Tryd.pinned (OpenSpec.ofChange sumMoreSpec)

/-- ITS FALSE NEIGHBOUR: 'it returns false'. Refute it at one input. -/
def sumMoreWrong : ChangeSpec := { name := "sumMore", fn := fun _ => fun
  | [d1, d2] => { results := [.lit (.bool false)], args := [d1, d2] }
  | _ => none }
def SumMoreWrongFalsely : Prop := sumMoreRow.holds Tryd.pinned (OpenSpec.ofChange sumMoreWrong)

/-- 'haulagelaw02.SumMixes': WHATEVER THE INPUT: true; the input reads as it did. -/
def sumMixesSpec : ChangeSpec := { name := "sumMixes", fn := fun _ => fun
  | [d1, d2, d3] => { results := [.lit (.bool true)], args := [d1, d2, d3] }
  | _ => none }
def sumMixesRow : OpenClaim := { program := "ytjkjpjbohiggaaadoor", sum := "cbb470ea8d6a3666fbaac004c97c4d1de9196c4f1c01c9fc72ac49dfabbb08a1", func := "haulage/haulagelaw02.SumMixes", spec := "sumMixes", named := ["haulage/sum.halves"], apart := false, laid := [("haulage/sum.halves", laid_haulage_sum_halves)] }
def SumMixesSaid : Prop := sumMixesRow.holds Tryd.pinned (OpenSpec.ofChange sumMixesSpec)

/-- ITS FALSE NEIGHBOUR: 'it returns false'. Refute it at one input. -/
def sumMixesWrong : ChangeSpec := { name := "sumMixes", fn := fun _ => fun
  | [d1, d2, d3] => { results := [.lit (.bool false)], args := [d1, d2, d3] }
  | _ => none }
def SumMixesWrongFalsely : Prop := sumMixesRow.holds Tryd.pinned (OpenSpec.ofChange sumMixesWrong)

/-- 'haulagelaw02.SumOpens': WHATEVER THE INPUT: true; the input reads as it did. -/
def sumOpensSpec : ChangeSpec := { name := "sumOpens", fn := fun _ => fun
  | [d] => { results := [.lit (.bool true)], args := [d] }
  | _ => none }
def sumOpensRow : OpenClaim := { program := "ytjkjpjbohiggaaadoor", sum := "cbb470ea8d6a3666fbaac004c97c4d1de9196c4f1c01c9fc72ac49dfabbb08a1", func := "haulage/haulagelaw02.SumOpens", spec := "sumOpens", named := ["haulage/sum.halves"], apart := false, laid := [("haulage/sum.halves", laid_haulage_sum_halves)] }
def SumOpensSaid : Prop := sumOpensRow.holds Tryd.pinned (OpenSpec.ofChange sumOpensSpec)

/-- ITS FALSE NEIGHBOUR: 'it returns false'. Refute it at one input. -/
def sumOpensWrong : ChangeSpec := { name := "sumOpens", fn := fun _ => fun
  | [d] => { results := [.lit (.bool false)], args := [d] }
  | _ => none }
def SumOpensWrongFalsely : Prop := sumOpensRow.holds Tryd.pinned (OpenSpec.ofChange sumOpensWrong)

/-- 'haulagelaw02.SumTells': WHATEVER THE INPUT: true; the input reads as it did. -/
def sumTellsSpec : ChangeSpec := { name := "sumTells", fn := fun _ => fun
  | [d1, d2, d3] => { results := [.lit (.bool true)], args := [d1, d2, d3] }
  | _ => none }
def sumTellsRow : OpenClaim := { program := "ytjkjpjbohiggaaadoor", sum := "cbb470ea8d6a3666fbaac004c97c4d1de9196c4f1c01c9fc72ac49dfabbb08a1", func := "haulage/haulagelaw02.SumTells", spec := "sumTells", named := ["haulage/sum.halves"], apart := false, laid := [("haulage/sum.halves", laid_haulage_sum_halves)] }
def SumTellsSaid : Prop := sumTellsRow.holds Tryd.pinned (OpenSpec.ofChange sumTellsSpec)

/-- ITS FALSE NEIGHBOUR: 'it returns false'. Refute it at one input. -/
def sumTellsWrong : ChangeSpec := { name := "sumTells", fn := fun _ => fun
  | [d1, d2, d3] => { results := [.lit (.bool false)], args := [d1, d2, d3] }
  | _ => none }
def SumTellsWrongFalsely : Prop := sumTellsRow.holds Tryd.pinned (OpenSpec.ofChange sumTellsWrong)

/-- 'haulagelaw18.WalrecWords': WHATEVER THE INPUT: true; the input reads as it did. -/
def walrecWordsSpec : ChangeSpec := { name := "walrecWords", fn := fun _ => fun
  | [d1, d2] => { results := [.lit (.bool true)], args := [d1, d2] }
  | _ => none }
def walrecWordsRow : OpenClaim := { program := "ytjkjpjbohiggaaadoor", sum := "cbb470ea8d6a3666fbaac004c97c4d1de9196c4f1c01c9fc72ac49dfabbb08a1", func := "haulage/haulagelaw18.WalrecWords", spec := "walrecWords", named := ["haulage/walrec.words"], apart := false, laid := [("haulage/walrec.words", laid_haulage_walrec_words)] }
def WalrecWordsSaid : Prop := walrecWordsRow.holds Tryd.pinned (OpenSpec.ofChange walrecWordsSpec)

/-- ITS FALSE NEIGHBOUR: 'it returns false'. Refute it at one input. -/
def walrecWordsWrong : ChangeSpec := { name := "walrecWords", fn := fun _ => fun
  | [d1, d2] => { results := [.lit (.bool false)], args := [d1, d2] }
  | _ => none }
def WalrecWordsWrongFalsely : Prop := walrecWordsRow.holds Tryd.pinned (OpenSpec.ofChange walrecWordsWrong)

/- THE SECOND FORM. 'bulk': how many values and letters a reading holds, each counted each time it is reached (what is shared counts as often as it is met; a slice's spare places count too). A statement '..UptoSaid' is the law's where the arguments, and the package variables that the reading takes, are together of bulk at most 1048576: NARROWER than '..Said'. Prove '..Said' where nothing that the law and all that it calls make is longer than what came in: it says more and counts as full. Else prove '..UptoSaid'. A law counts once. -/
mutual
def uptoBulk {H : Type} : DataW H → Nat
  | .lit (.string bytes) => bytes.length + 1
  | .lit _ => 1
  | .nil => 1
  | .ptr d => uptoBulk d + 1
  | .slice elems spare => uptoBulkAll elems + uptoBulkAll spare + 1
  | .agg parts => uptoBulkAll parts + 1
  | .iface _ d => uptoBulk d + 1
  | .map entries => uptoBulkEntries entries + 1
  | .held _ => 1
def uptoBulkAll {H : Type} : List (DataW H) → Nat
  | [] => 0
  | d :: r => uptoBulk d + uptoBulkAll r
def uptoBulkEntries {H : Type} : List (Lit × DataW H) → Nat
  | [] => 0
  | x :: r => uptoBulkEntry x + uptoBulkEntries r
def uptoBulkEntry {H : Type} : Lit × DataW H → Nat
  | (.string bytes, d) => bytes.length + uptoBulk d + 1
  | (_, d) => uptoBulk d + 1
 end
def uptoSmall : (H : Type) → List (DataW H) → Bool := fun _ ds => decide (uptoBulkAll ds ≤ 1048576)
def OpenSpec.upto (s : _root_.Go.ChangeSpec) : _root_.Go.OpenSpec := { _root_.Go.OpenSpec.ofChange s with cond := some uptoSmall }

/-- 'haulagelaw02.SumOf', WHERE WHAT IT READS IS OF BULK AT MOST 1048576: true; the input reads as it did. -/
def sumOfUptoRow : OpenClaim := { program := "ytjkjpjbohiggaaadoor", sum := "cbb470ea8d6a3666fbaac004c97c4d1de9196c4f1c01c9fc72ac49dfabbb08a1", func := "haulage/haulagelaw02.SumOf", spec := "sumOf", named := ["haulage/sum.halves"], apart := false, laid := [("haulage/sum.halves", laid_haulage_sum_halves)], narrowed := true }
def SumOfUptoSaid : Prop := sumOfUptoRow.holds Tryd.pinned (OpenSpec.upto sumOfSpec)

/-- 'haulagelaw02.SumMore', WHERE WHAT IT READS IS OF BULK AT MOST 1048576: true; the input reads as it did. -/
def sumMoreUptoRow : OpenClaim := { program := "ytjkjpjbohiggaaadoor", sum := "cbb470ea8d6a3666fbaac004c97c4d1de9196c4f1c01c9fc72ac49dfabbb08a1", func := "haulage/haulagelaw02.SumMore", spec := "sumMore", named := ["haulage/sum.halves"], apart := false, laid := [("haulage/sum.halves", laid_haulage_sum_halves)], narrowed := true }
def SumMoreUptoSaid : Prop := sumMoreUptoRow.holds Tryd.pinned (OpenSpec.upto sumMoreSpec)

/-- 'haulagelaw02.SumMixes', WHERE WHAT IT READS IS OF BULK AT MOST 1048576: true; the input reads as it did. -/
def sumMixesUptoRow : OpenClaim := { program := "ytjkjpjbohiggaaadoor", sum := "cbb470ea8d6a3666fbaac004c97c4d1de9196c4f1c01c9fc72ac49dfabbb08a1", func := "haulage/haulagelaw02.SumMixes", spec := "sumMixes", named := ["haulage/sum.halves"], apart := false, laid := [("haulage/sum.halves", laid_haulage_sum_halves)], narrowed := true }
def SumMixesUptoSaid : Prop := sumMixesUptoRow.holds Tryd.pinned (OpenSpec.upto sumMixesSpec)

/-- 'haulagelaw02.SumOpens', WHERE WHAT IT READS IS OF BULK AT MOST 1048576: true; the input reads as it did. -/
def sumOpensUptoRow : OpenClaim := { program := "ytjkjpjbohiggaaadoor", sum := "cbb470ea8d6a3666fbaac004c97c4d1de9196c4f1c01c9fc72ac49dfabbb08a1", func := "haulage/haulagelaw02.SumOpens", spec := "sumOpens", named := ["haulage/sum.halves"], apart := false, laid := [("haulage/sum.halves", laid_haulage_sum_halves)], narrowed := true }
def SumOpensUptoSaid : Prop := sumOpensUptoRow.holds Tryd.pinned (OpenSpec.upto sumOpensSpec)

/-- 'haulagelaw02.SumTells', WHERE WHAT IT READS IS OF BULK AT MOST 1048576: true; the input reads as it did. -/
def sumTellsUptoRow : OpenClaim := { program := "ytjkjpjbohiggaaadoor", sum := "cbb470ea8d6a3666fbaac004c97c4d1de9196c4f1c01c9fc72ac49dfabbb08a1", func := "haulage/haulagelaw02.SumTells", spec := "sumTells", named := ["haulage/sum.halves"], apart := false, laid := [("haulage/sum.halves", laid_haulage_sum_halves)], narrowed := true }
def SumTellsUptoSaid : Prop := sumTellsUptoRow.holds Tryd.pinned (OpenSpec.upto sumTellsSpec)

/-- 'haulagelaw18.WalrecWords', WHERE WHAT IT READS IS OF BULK AT MOST 1048576: true; the input reads as it did. -/
def walrecWordsUptoRow : OpenClaim := { program := "ytjkjpjbohiggaaadoor", sum := "cbb470ea8d6a3666fbaac004c97c4d1de9196c4f1c01c9fc72ac49dfabbb08a1", func := "haulage/haulagelaw18.WalrecWords", spec := "walrecWords", named := ["haulage/walrec.words"], apart := false, laid := [("haulage/walrec.words", laid_haulage_walrec_words)], narrowed := true }
def WalrecWordsUptoSaid : Prop := walrecWordsUptoRow.holds Tryd.pinned (OpenSpec.upto walrecWordsSpec)

end Rows
end Go.Proofs.YtjkjpjbohiggaaaDoor

/-
  No cell of these rows narrows 'for every input' (looked for: loops, veiled, ifaces, maps, wideKeys, modest, calm, conditions, laid).
  DERIVED. THE GIVEN ROWS OF THIS SEAT. 6 by the template 'for every input the law returns true; each argument reads behind the call as it read before'; 0 by the template 'total and deterministic' (their statements: YtjkjpjbohiggaaaTotals.lean).
  GIVEN WITH THE SEED: the statements are not yours to turn. If you find one false, say at which input.
  Laid BY PROGRAM, IN A SANDBOX (cutbox-rows.mjs): the forced cells as the released guide's own fill.sh prints them over the translation 8aa84efb1ce4b03f… (all of the seat's roots in one cut). By AI agents, Wed Nov 11 2026. No macro, syntax, notation, axiom, sorry.
-/
import Derived.Test.YtjkjpjbohiggaaaChecked
import GoSem.Claim
import GoSem.ClaimJoined
import GoSem.ClaimMapViews
import Derived.JoinedTies
import Derived.KernelRfl
namespace Go.Proofs.Ytjkjpjbohiggaaa
/- THE CELL 'sum', in the pinned program and in every row, IS THE sha256 OF THE DUMP (.gsa) THAT YtjkjpjbohiggaaaProg.lean LOADS. Nothing in Lean hashes anything: it is a label: what it is worth is what the hold of that sum in a sandbox is worth. -/
noncomputable def Try.pinned : Pinned := { name := "ytjkjpjbohiggaaa", sum := "8aa84efb1ce4b03fa2fc3cc35e550ccd5e39bc291ccbe63d34af67cc3ddd0e34", checked := Try.checked }
namespace Rows
def none {H : Type} : Left H := { results := [], args := [] }

/-- 'haulagelaw01.WordShort': WHATEVER THE INPUT: true; the input reads as it did. -/
def wordShortSpec : ChangeSpec := { name := "wordShort", fn := fun _ => fun
  | [d] => { results := [.lit (.bool true)], args := [d] }
  | _ => none }
def wordShortRow : OpenClaim := { program := "ytjkjpjbohiggaaa", sum := "8aa84efb1ce4b03fa2fc3cc35e550ccd5e39bc291ccbe63d34af67cc3ddd0e34", func := "haulage/haulagelaw01.WordShort", spec := "wordShort", recurses := true, apart := false }
def WordShortSaid : Prop := wordShortRow.holds Try.pinned (OpenSpec.ofChange wordShortSpec)

/-- ITS FALSE NEIGHBOUR: 'it returns false'. Refute it at one input. -/
def wordShortWrong : ChangeSpec := { name := "wordShort", fn := fun _ => fun
  | [d] => { results := [.lit (.bool false)], args := [d] }
  | _ => none }
def WordShortWrongFalsely : Prop := wordShortRow.holds Try.pinned (OpenSpec.ofChange wordShortWrong)

/-- 'haulagelaw01.WordTurned': WHATEVER THE INPUT: true; the input reads as it did. -/
def wordTurnedSpec : ChangeSpec := { name := "wordTurned", fn := fun _ => fun
  | [d1, d2] => { results := [.lit (.bool true)], args := [d1, d2] }
  | _ => none }
def wordTurnedRow : OpenClaim := { program := "ytjkjpjbohiggaaa", sum := "8aa84efb1ce4b03fa2fc3cc35e550ccd5e39bc291ccbe63d34af67cc3ddd0e34", func := "haulage/haulagelaw01.WordTurned", spec := "wordTurned", apart := false }
def WordTurnedSaid : Prop := wordTurnedRow.holds Try.pinned (OpenSpec.ofChange wordTurnedSpec)

/-- ITS FALSE NEIGHBOUR: 'it returns false'. Refute it at one input. -/
def wordTurnedWrong : ChangeSpec := { name := "wordTurned", fn := fun _ => fun
  | [d1, d2] => { results := [.lit (.bool false)], args := [d1, d2] }
  | _ => none }
def WordTurnedWrongFalsely : Prop := wordTurnedRow.holds Try.pinned (OpenSpec.ofChange wordTurnedWrong)

/-- 'haulagelaw01.WordFits': WHATEVER THE INPUT: true; the input reads as it did. -/
def wordFitsSpec : ChangeSpec := { name := "wordFits", fn := fun _ => fun
  | [d1, d2] => { results := [.lit (.bool true)], args := [d1, d2] }
  | _ => none }
def wordFitsRow : OpenClaim := { program := "ytjkjpjbohiggaaa", sum := "8aa84efb1ce4b03fa2fc3cc35e550ccd5e39bc291ccbe63d34af67cc3ddd0e34", func := "haulage/haulagelaw01.WordFits", spec := "wordFits", apart := false }
def WordFitsSaid : Prop := wordFitsRow.holds Try.pinned (OpenSpec.ofChange wordFitsSpec)

/-- ITS FALSE NEIGHBOUR: 'it returns false'. Refute it at one input. -/
def wordFitsWrong : ChangeSpec := { name := "wordFits", fn := fun _ => fun
  | [d1, d2] => { results := [.lit (.bool false)], args := [d1, d2] }
  | _ => none }
def WordFitsWrongFalsely : Prop := wordFitsRow.holds Try.pinned (OpenSpec.ofChange wordFitsWrong)

/-- 'haulagelaw01.WordFixed': WHATEVER THE INPUT: true; the input reads as it did. -/
def wordFixedSpec : ChangeSpec := { name := "wordFixed", fn := fun _ => fun
  | [d1, d2, d3] => { results := [.lit (.bool true)], args := [d1, d2, d3] }
  | _ => none }
def wordFixedRow : OpenClaim := { program := "ytjkjpjbohiggaaa", sum := "8aa84efb1ce4b03fa2fc3cc35e550ccd5e39bc291ccbe63d34af67cc3ddd0e34", func := "haulage/haulagelaw01.WordFixed", spec := "wordFixed", apart := false }
def WordFixedSaid : Prop := wordFixedRow.holds Try.pinned (OpenSpec.ofChange wordFixedSpec)

/-- ITS FALSE NEIGHBOUR: 'it returns false'. Refute it at one input. -/
def wordFixedWrong : ChangeSpec := { name := "wordFixed", fn := fun _ => fun
  | [d1, d2, d3] => { results := [.lit (.bool false)], args := [d1, d2, d3] }
  | _ => none }
def WordFixedWrongFalsely : Prop := wordFixedRow.holds Try.pinned (OpenSpec.ofChange wordFixedWrong)

/-- 'haulagelaw01.WordLong': WHATEVER THE INPUT: true; the input reads as it did. -/
def wordLongSpec : ChangeSpec := { name := "wordLong", fn := fun _ => fun
  | [d] => { results := [.lit (.bool true)], args := [d] }
  | _ => none }
def wordLongRow : OpenClaim := { program := "ytjkjpjbohiggaaa", sum := "8aa84efb1ce4b03fa2fc3cc35e550ccd5e39bc291ccbe63d34af67cc3ddd0e34", func := "haulage/haulagelaw01.WordLong", spec := "wordLong", apart := false }
def WordLongSaid : Prop := wordLongRow.holds Try.pinned (OpenSpec.ofChange wordLongSpec)

/-- ITS FALSE NEIGHBOUR: 'it returns false'. Refute it at one input. -/
def wordLongWrong : ChangeSpec := { name := "wordLong", fn := fun _ => fun
  | [d] => { results := [.lit (.bool false)], args := [d] }
  | _ => none }
def WordLongWrongFalsely : Prop := wordLongRow.holds Try.pinned (OpenSpec.ofChange wordLongWrong)

/-- 'haulagelaw01.WordBack': WHATEVER THE INPUT: true; the input reads as it did. -/
def wordBackSpec : ChangeSpec := { name := "wordBack", fn := fun _ => fun
  | [d1, d2, d3] => { results := [.lit (.bool true)], args := [d1, d2, d3] }
  | _ => none }
def wordBackRow : OpenClaim := { program := "ytjkjpjbohiggaaa", sum := "8aa84efb1ce4b03fa2fc3cc35e550ccd5e39bc291ccbe63d34af67cc3ddd0e34", func := "haulage/haulagelaw01.WordBack", spec := "wordBack", apart := false }
def WordBackSaid : Prop := wordBackRow.holds Try.pinned (OpenSpec.ofChange wordBackSpec)

/-- ITS FALSE NEIGHBOUR: 'it returns false'. Refute it at one input. -/
def wordBackWrong : ChangeSpec := { name := "wordBack", fn := fun _ => fun
  | [d1, d2, d3] => { results := [.lit (.bool false)], args := [d1, d2, d3] }
  | _ => none }
def WordBackWrongFalsely : Prop := wordBackRow.holds Try.pinned (OpenSpec.ofChange wordBackWrong)

/- THE SECOND FORM. 'bulk': how many values and letters a reading holds, each counted each time it is reached (what is shared counts as often as it is met; a slice's spare places count too). A statement '..UptoSaid' is the law's where the arguments, and the package variables that the reading takes, are together of bulk at most 1048576: NARROWER than '..Said'. Prove '..Said' where nothing that the law and all that it calls make is longer than what came in: it says more and counts as full. Else prove '..UptoSaid'. A law counts once. -/
mutual
def uptoBulk {H : Type} : DataW H → Nat
  | .lit (.string bytes) => bytes.length + 1
  | .lit _ => 1
  | .nil => 1
  | .ptr d => uptoBulk d + 1
  | .slice elems spare => uptoBulkAll elems + uptoBulkAll spare + 1
  | .agg parts => uptoBulkAll parts + 1
  | .iface _ d => uptoBulk d + 1
  | .map entries => uptoBulkEntries entries + 1
  | .held _ => 1
def uptoBulkAll {H : Type} : List (DataW H) → Nat
  | [] => 0
  | d :: r => uptoBulk d + uptoBulkAll r
def uptoBulkEntries {H : Type} : List (Lit × DataW H) → Nat
  | [] => 0
  | x :: r => uptoBulkEntry x + uptoBulkEntries r
def uptoBulkEntry {H : Type} : Lit × DataW H → Nat
  | (.string bytes, d) => bytes.length + uptoBulk d + 1
  | (_, d) => uptoBulk d + 1
 end
def uptoSmall : (H : Type) → List (DataW H) → Bool := fun _ ds => decide (uptoBulkAll ds ≤ 1048576)
def OpenSpec.upto (s : _root_.Go.ChangeSpec) : _root_.Go.OpenSpec := { _root_.Go.OpenSpec.ofChange s with cond := some uptoSmall }

/-- 'haulagelaw01.WordShort', WHERE WHAT IT READS IS OF BULK AT MOST 1048576: true; the input reads as it did. -/
def wordShortUptoRow : OpenClaim := { program := "ytjkjpjbohiggaaa", sum := "8aa84efb1ce4b03fa2fc3cc35e550ccd5e39bc291ccbe63d34af67cc3ddd0e34", func := "haulage/haulagelaw01.WordShort", spec := "wordShort", recurses := true, apart := false, narrowed := true }
def WordShortUptoSaid : Prop := wordShortUptoRow.holds Try.pinned (OpenSpec.upto wordShortSpec)

/-- 'haulagelaw01.WordTurned', WHERE WHAT IT READS IS OF BULK AT MOST 1048576: true; the input reads as it did. -/
def wordTurnedUptoRow : OpenClaim := { program := "ytjkjpjbohiggaaa", sum := "8aa84efb1ce4b03fa2fc3cc35e550ccd5e39bc291ccbe63d34af67cc3ddd0e34", func := "haulage/haulagelaw01.WordTurned", spec := "wordTurned", apart := false, narrowed := true }
def WordTurnedUptoSaid : Prop := wordTurnedUptoRow.holds Try.pinned (OpenSpec.upto wordTurnedSpec)

/-- 'haulagelaw01.WordFits', WHERE WHAT IT READS IS OF BULK AT MOST 1048576: true; the input reads as it did. -/
def wordFitsUptoRow : OpenClaim := { program := "ytjkjpjbohiggaaa", sum := "8aa84efb1ce4b03fa2fc3cc35e550ccd5e39bc291ccbe63d34af67cc3ddd0e34", func := "haulage/haulagelaw01.WordFits", spec := "wordFits", apart := false, narrowed := true }
def WordFitsUptoSaid : Prop := wordFitsUptoRow.holds Try.pinned (OpenSpec.upto wordFitsSpec)

/-- 'haulagelaw01.WordFixed', WHERE WHAT IT READS IS OF BULK AT MOST 1048576: true; the input reads as it did. -/
def wordFixedUptoRow : OpenClaim := { program := "ytjkjpjbohiggaaa", sum := "8aa84efb1ce4b03fa2fc3cc35e550ccd5e39bc291ccbe63d34af67cc3ddd0e34", func := "haulage/haulagelaw01.WordFixed", spec := "wordFixed", apart := false, narrowed := true }
def WordFixedUptoSaid : Prop := wordFixedUptoRow.holds Try.pinned (OpenSpec.upto wordFixedSpec)

/-- 'haulagelaw01.WordLong', WHERE WHAT IT READS IS OF BULK AT MOST 1048576: true; the input reads as it did. -/
def wordLongUptoRow : OpenClaim := { program := "ytjkjpjbohiggaaa", sum := "8aa84efb1ce4b03fa2fc3cc35e550ccd5e39bc291ccbe63d34af67cc3ddd0e34", func := "haulage/haulagelaw01.WordLong", spec := "wordLong", apart := false, narrowed := true }
def WordLongUptoSaid : Prop := wordLongUptoRow.holds Try.pinned (OpenSpec.upto wordLongSpec)

/-- 'haulagelaw01.WordBack', WHERE WHAT IT READS IS OF BULK AT MOST 1048576: true; the input reads as it did. -/
def wordBackUptoRow : OpenClaim := { program := "ytjkjpjbohiggaaa", sum := "8aa84efb1ce4b03fa2fc3cc35e550ccd5e39bc291ccbe63d34af67cc3ddd0e34", func := "haulage/haulagelaw01.WordBack", spec := "wordBack", apart := false, narrowed := true }
def WordBackUptoSaid : Prop := wordBackUptoRow.holds Try.pinned (OpenSpec.upto wordBackSpec)

end Rows
end Go.Proofs.Ytjkjpjbohiggaaa

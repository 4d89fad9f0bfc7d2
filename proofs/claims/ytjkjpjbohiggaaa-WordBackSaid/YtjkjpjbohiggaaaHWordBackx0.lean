/- For Go functions that WordBack reaches: Lean functions, and walks that show that each call comes to what its Lean function tells; no condition but those that each theorem states. (This text began as a print of the kit's print.sh; the session's mend.py turned it.) -/
import Derived.Test.YtjkjpjbohiggaaaProg
import Derived.Below
import Derived.Deep.Draws
import Derived.Deep.AppendLies
import Derived.Maps.AppendAt
import Derived.OwnWalk
import Derived.Laws.BytesArg
import Derived.Laws.MakeOwn
import Derived.Laws.OwnMore
import Derived.Deep.OwnRows
import Derived.Tactics
import Derived.Lib.ConvBytes
import Derived.Laws.Slices
import Derived.WalkKit
import Derived.KernelRfl
import Derived.RowKit3
import Derived.Deep.LoopGhost
import Derived.Deep.QuietTactic
import Derived.BigQuiet
import Derived.WideLaws
import Derived.Deep.DeepCutAuto
import Derived.Deep.CutBlock
import Derived.Deep.RegionHeld3
import Derived.Laws.Rows
import Derived.Lib.AppendStr
import Derived.ArgAppend
import Derived.Laws.IdiomCopy
import Derived.OrdersHeld
import Derived.Laws.BitsLemmas
import Derived.RowKit
import Derived.Test.YtjkjpjbohiggaaaWWords
import Derived.Test.YtjkjpjbohiggaaaWLast
import Derived.Test.YtjkjpjbohiggaaaWTab
import Derived.Test.YtjkjpjbohiggaaaWFour
import Derived.Test.YtjkjpjbohiggaaaWQPut
import Derived.Test.YtjkjpjbohiggaaaWApart
import Derived.Test.YtjkjpjbohiggaaaWArr
import Derived.Test.YtjkjpjbohiggaaaWZeros
import Derived.Test.YtjkjpjbohiggaaaWFoot
import Derived.Test.YtjkjpjbohiggaaaWKept
import Derived.Test.YtjkjpjbohiggaaaWShare
import Derived.Test.YtjkjpjbohiggaaaWN
import Derived.Test.YtjkjpjbohiggaaaWFootNe
import Derived.Test.YtjkjpjbohiggaaaWAt
import Derived.Test.YtjkjpjbohiggaaaWEqStruct
import Derived.Test.YtjkjpjbohiggaaaWRepsOne
import Derived.Test.YtjkjpjbohiggaaaWInv
import Derived.Test.YtjkjpjbohiggaaaWInvWords
import Derived.Test.YtjkjpjbohiggaaaWGuard
import Derived.Test.YtjkjpjbohiggaaaWNEv
import Derived.Test.YtjkjpjbohiggaaaWMore
namespace Go.Proofs.Ytjkjpjbohiggaaa.HWordBack
open Go.RowKit Go.Proofs.YtjkjpjbohiggaaaW.PrintWords Go.Proofs.YtjkjpjbohiggaaaW.PrintLast Go.Proofs.YtjkjpjbohiggaaaW.PrintMore
attribute [local go_sem] max2_int min2_int max_two min_two max_three min_three max_four min_four   -- for this text's walks alone
set_option linter.unusedVariables false
set_option linter.unusedSimpArgs false



def errW : Option Int → Value
  | none => .nilIface
  | some c => .iface 0 (.int .i64 c)
theorem errW_none : errW none = .nilIface := rfl
theorem errW_some (c : Int) : errW (some c) = .iface 0 (.int .i64 c) := rfl

theorem info5 : (Try.prog.info? 5).map (fun i => (i.zero, i.size, i.bytes)) = some (some (.int .u8 0), 1, 1) := by kernel_rfl
theorem info27 : (Try.prog.info? 27).map (fun i => (i.zero, i.size, i.bytes)) = some (some (.int .u64 0), 1, 8) := by kernel_rfl
-- the values' own types

end Go.Proofs.Ytjkjpjbohiggaaa.HWordBack

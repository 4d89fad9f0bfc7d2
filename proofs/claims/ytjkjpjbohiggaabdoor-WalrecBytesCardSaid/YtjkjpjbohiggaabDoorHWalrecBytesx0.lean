/- For Go functions that WalrecBytes reaches: Lean functions, and walks that show that each call comes to what its Lean function tells; no condition but those that each theorem states. (Made by a program of this session over the kit's print.py.) -/
import Derived.Test.YtjkjpjbohiggaabDoorProg
import Derived.Below
import Derived.Deep.Draws
import Derived.Deep.AppendLies
import Derived.Maps.AppendAt
import Derived.OwnWalk
import Derived.Laws.BytesArg
import Derived.Laws.MakeOwn
import Derived.Laws.OwnMore
import Derived.Deep.OwnRows
import Derived.Tactics
import Derived.Lib.ConvBytes
import Derived.Laws.Slices
import Derived.WalkKit
import Derived.KernelRfl
import Derived.RowKit3
import Derived.Deep.LoopGhost
import Derived.Deep.QuietTactic
import Derived.BigQuiet
import Derived.WideLaws
import Derived.Deep.DeepCutAuto
import Derived.Deep.CutBlock
import Derived.Deep.RegionHeld3
import Derived.Laws.Rows
import Derived.Lib.AppendStr
import Derived.ArgAppend
import Derived.Laws.IdiomCopy
import Derived.OrdersHeld
import Derived.Laws.BitsLemmas
import Derived.RowKit
import Derived.Test.YtjkjpjbohiggaabDoorWWords
import Derived.Test.YtjkjpjbohiggaabDoorWLast
import Derived.Test.YtjkjpjbohiggaabDoorWTab
import Derived.Test.YtjkjpjbohiggaabDoorWFour
import Derived.Test.YtjkjpjbohiggaabDoorWQPut
import Derived.Test.YtjkjpjbohiggaabDoorWApart
import Derived.Test.YtjkjpjbohiggaabDoorWArr
import Derived.Test.YtjkjpjbohiggaabDoorWZeros
import Derived.Test.YtjkjpjbohiggaabDoorWFoot
import Derived.Test.YtjkjpjbohiggaabDoorWKept
import Derived.Test.YtjkjpjbohiggaabDoorWShare
import Derived.Test.YtjkjpjbohiggaabDoorWN
import Derived.Test.YtjkjpjbohiggaabDoorWFootNe
import Derived.Test.YtjkjpjbohiggaabDoorWAt
import Derived.Test.YtjkjpjbohiggaabDoorWEqStruct
import Derived.Test.YtjkjpjbohiggaabDoorWRepsOne
import Derived.Test.YtjkjpjbohiggaabDoorWInv
import Derived.Test.YtjkjpjbohiggaabDoorWInvWords
import Derived.Test.YtjkjpjbohiggaabDoorWGuard
import Derived.Test.YtjkjpjbohiggaabDoorWNEv
import Derived.Test.YtjkjpjbohiggaabDoorWMore
namespace Go.Proofs.YtjkjpjbohiggaabDoor.HWalrecBytes
open Go.RowKit Go.Proofs.YtjkjpjbohiggaabDoorW.PrintWords Go.Proofs.YtjkjpjbohiggaabDoorW.PrintLast Go.Proofs.YtjkjpjbohiggaabDoorW.PrintMore
attribute [local go_sem] max2_int min2_int max_two min_two max_three min_three max_four min_four   -- for this text's walks alone
set_option linter.unusedVariables false
set_option linter.unusedSimpArgs false



def errW : Option Int → Value
  | none => .nilIface
  | some c => .iface 0 (.int .i64 c)
theorem errW_none : errW none = .nilIface := rfl
theorem errW_some (c : Int) : errW (some c) = .iface 0 (.int .i64 c) := rfl

theorem info5 : (Tryd.prog.info? 5).map (fun i => (i.zero, i.size, i.bytes)) = some (some (.int .u8 0), 1, 1) := by kernel_rfl
theorem info47 : (Tryd.prog.info? 47).map (fun i => (i.zero, i.size, i.bytes)) = some (some (.int .u64 0), 1, 8) := by kernel_rfl
-- the values' own types

theorem hp_s8 : IntKind.u8.signed = false := rfl
theorem hp_m8 : IntKind.u8.max = 255 := by decide
theorem hp_s16 : IntKind.u16.signed = false := rfl
theorem hp_m16 : IntKind.u16.max = 65535 := by decide
theorem hp_s32 : IntKind.u32.signed = false := rfl
theorem hp_m32 : IntKind.u32.max = 4294967295 := by decide
theorem hp_s64 : IntKind.u64.signed = false := rfl
theorem hp_m64 : IntKind.u64.max = 18446744073709551615 := by decide
/-- What haulage/walrec.words holds. -/
def G0 : List ByteArray := [(⟨#[]⟩ : ByteArray), (⟨#[98, 101, 103, 105, 110]⟩ : ByteArray), (⟨#[105, 110, 115, 101, 114, 116]⟩ : ByteArray), (⟨#[117, 112, 100, 97, 116, 101]⟩ : ByteArray), (⟨#[100, 101, 108, 101, 116, 101]⟩ : ByteArray), (⟨#[100, 100, 108]⟩ : ByteArray), (⟨#[99, 111, 109, 109, 105, 116]⟩ : ByteArray), (⟨#[97, 98, 111, 114, 116]⟩ : ByteArray), (⟨#[114, 101, 115, 101, 116]⟩ : ByteArray)]
/-- The package-level tables hold what the program's text lays in them. -/
structure Glob (w : World) : Prop where
  at0 : Kd.C Kd.string w (some ⟨0, 0, none⟩) 9 G0
theorem Glob.below {w w1 : World} (h : Glob w) (hb : Below w.heap.size w w1) : Glob w1 := ⟨Kd.C_below h.at0 hb⟩
theorem Glob.alloc {w : World} (h : Glob w) (o : Obj) : Glob (w.alloc o) := ⟨Kd.C_alloc h.at0 o⟩
theorem Glob.drew {w : World} (h : Glob w) : Glob w.drew := ⟨Kd.C_drew h.at0⟩
theorem Glob.drewN {w : World} (h : Glob w) (n : Nat) : Glob (w.drewN n) := ⟨Kd.C_drewN h.at0 n⟩
end Go.Proofs.YtjkjpjbohiggaabDoor.HWalrecBytes

/- For Go functions that CatcodeValues reaches: Lean functions, and walks that show that each call comes to what its Lean function tells; no condition but those that each theorem states. (Made by a program of this session over the kit's print.py.) -/
import Derived.Test.YtgefikclhfjcgaaDoorProg
import Derived.Below
import Derived.Deep.Draws
import Derived.Deep.AppendLies
import Derived.Maps.AppendAt
import Derived.OwnWalk
import Derived.Laws.BytesArg
import Derived.Laws.MakeOwn
import Derived.Laws.OwnMore
import Derived.Deep.OwnRows
import Derived.Tactics
import Derived.Lib.ConvBytes
import Derived.Laws.Slices
import Derived.WalkKit
import Derived.KernelRfl
import Derived.RowKit3
import Derived.Deep.LoopGhost
import Derived.Deep.QuietTactic
import Derived.BigQuiet
import Derived.WideLaws
import Derived.Deep.DeepCutAuto
import Derived.Deep.CutBlock
import Derived.Deep.RegionHeld3
import Derived.Laws.Rows
import Derived.Lib.AppendStr
import Derived.ArgAppend
import Derived.Laws.IdiomCopy
import Derived.OrdersHeld
import Derived.Laws.BitsLemmas
import Derived.RowKit
import Derived.Maps.OwnSet
import Derived.Test.YtgefikclhfjcgaaDoorWWords
import Derived.Test.YtgefikclhfjcgaaDoorWLast
import Derived.Test.YtgefikclhfjcgaaDoorWTab
import Derived.Test.YtgefikclhfjcgaaDoorWFour
import Derived.Test.YtgefikclhfjcgaaDoorWQPut
import Derived.Test.YtgefikclhfjcgaaDoorWApart
import Derived.Test.YtgefikclhfjcgaaDoorWArr
import Derived.Test.YtgefikclhfjcgaaDoorWZeros
import Derived.Test.YtgefikclhfjcgaaDoorWFoot
import Derived.Test.YtgefikclhfjcgaaDoorWKept
import Derived.Test.YtgefikclhfjcgaaDoorWShare
import Derived.Test.YtgefikclhfjcgaaDoorWN
import Derived.Test.YtgefikclhfjcgaaDoorWFootNe
import Derived.Test.YtgefikclhfjcgaaDoorWAt
import Derived.Test.YtgefikclhfjcgaaDoorWEqStruct
import Derived.Test.YtgefikclhfjcgaaDoorWRepsOne
import Derived.Test.YtgefikclhfjcgaaDoorWInv
import Derived.Test.YtgefikclhfjcgaaDoorWInvWords
import Derived.Test.YtgefikclhfjcgaaDoorWGuard
import Derived.Test.YtgefikclhfjcgaaDoorWNEv
import Derived.Test.YtgefikclhfjcgaaDoorWMore
namespace Go.Proofs.YtgefikclhfjcgaaDoor.HCatcodeValues
open Go.RowKit Go.Proofs.YtgefikclhfjcgaaDoorW.PrintWords Go.Proofs.YtgefikclhfjcgaaDoorW.PrintLast Go.Proofs.YtgefikclhfjcgaaDoorW.PrintMore
attribute [local go_sem] max2_int min2_int max_two min_two max_three min_three max_four min_four   -- for this text's walks alone
set_option linter.unusedVariables false
set_option linter.unusedSimpArgs false
def errW : Option Int → Value
 | none => .nilIface
 | some c => .iface 0 (.int .i64 c)
theorem errW_none : errW none = .nilIface := rfl
theorem errW_some (c : Int) : errW (some c) = .iface 0 (.int .i64 c) := rfl
theorem info3 : (Tryd.prog.info? 3).map (fun i => (i.zero, i.size, i.bytes)) = some (some (.int .i64 0), 1, 8) := by kernel_rfl
theorem info5 : (Tryd.prog.info? 5).map (fun i => (i.zero, i.size, i.bytes)) = some (some (.int .u8 0), 1, 1) := by kernel_rfl
theorem info91 : (Tryd.prog.info? 91).map (fun i => (i.zero, i.size, i.bytes)) = some (some (.int .u64 0), 1, 8) := by kernel_rfl
-- the values' own types
/-! #### struct type 48 -/
structure S48 where
 f0 : Int
 f1 : Int
def z48 : S48 := ⟨(0 : Int), (0 : Int)⟩
def k48 : Kd S48 := Kd.iso (Kd.pair (Kd.int .i64) (Kd.int .i64)) (fun x : S48 => (x.f0, x.f1))
theorem k48_open {w : World} {x : S48} {cs : List Value} (h : k48.K w x cs) : cs = [.int .i64 x.f0, .int .i64 x.f1] := by
 obtain ⟨_, _, rfl, rfl, rfl⟩ := h
 exact rfl
theorem k48_openM {w : World} {base : Nat} {ok : Nat → Prop} {x : S48} {cs : List Value} (h : k48.M w base ok x cs) : cs = [.int .i64 x.f0, .int .i64 x.f1] := by
 obtain ⟨_, _, rfl, rfl, rfl⟩ := h
 exact rfl
theorem k48_mk (w : World) (x : S48)  : k48.K w x [.int .i64 x.f0, .int .i64 x.f1] := ⟨[.int .i64 x.f0], [.int .i64 x.f1], rfl, rfl, rfl⟩
theorem k48_mkM (w : World) (base : Nat) (ok : Nat → Prop) (x : S48)  : k48.M w base ok x [.int .i64 x.f0, .int .i64 x.f1] := ⟨[.int .i64 x.f0], [.int .i64 x.f1], rfl, rfl, rfl⟩
def rd_T48 (xs : List S48) (i : Int) : S48 := xs.getD i.toNat z48
theorem at_T48 {w : World} {A : Option Addr} {n : Nat} {xs : List S48} (h : Kd.C k48 w A n xs) (i : Int) (h0 : 0 ≤ i) (h1 : i < n) : ∃ ad , A = some ad ∧ w.cell? (ad.add (i.toNat * 2)) = some (.int .i64 (rd_T48 xs i).f0) ∧ w.cell? ⟨(ad.add (i.toNat * 2)).block, (ad.add (i.toNat * 2)).off + 1, none⟩ = some (.int .i64 (rd_T48 xs i).f1) := by
 obtain ⟨ad, c, e, _, hK, hc0⟩ := Kd.C_get h z48 i h0 h1
 have hc : ∀ j u, c[j]? = some u → w.cell? (ad.add (i.toNat * 2 + j)) = some u := hc0
 obtain rfl := k48_open hK
 exact ⟨ad, e, hc 0 _ rfl, by rw [← add_field _ _ 1 (by omega)]; exact hc 1 _ rfl⟩
/-! #### struct type 23 -/
structure S23 where
 f0 : Int
 f1 : Int
 f2 : ByteArray
def z23 : S23 := ⟨(0 : Int), (0 : Int), (⟨#[]⟩ : ByteArray)⟩
def k23 : Kd S23 := Kd.iso (Kd.pair (Kd.int .i64) (Kd.pair (Kd.int .i64) Kd.string)) (fun x : S23 => (x.f0, x.f1, x.f2))
theorem k23_open {w : World} {x : S23} {cs : List Value} (h : k23.K w x cs) : cs = [.int .i64 x.f0, .int .i64 x.f1, .string x.f2] := by
 obtain ⟨_, _, rfl, rfl, ⟨_, _, rfl, rfl, rfl⟩⟩ := h
 exact rfl
theorem k23_openM {w : World} {base : Nat} {ok : Nat → Prop} {x : S23} {cs : List Value} (h : k23.M w base ok x cs) : cs = [.int .i64 x.f0, .int .i64 x.f1, .string x.f2] := by
 obtain ⟨_, _, rfl, rfl, ⟨_, _, rfl, rfl, rfl⟩⟩ := h
 exact rfl
theorem k23_mk (w : World) (x : S23)  : k23.K w x [.int .i64 x.f0, .int .i64 x.f1, .string x.f2] := ⟨[.int .i64 x.f0], [.int .i64 x.f1, .string x.f2], rfl, rfl, ⟨[.int .i64 x.f1], [.string x.f2], rfl, rfl, rfl⟩⟩
theorem k23_mkM (w : World) (base : Nat) (ok : Nat → Prop) (x : S23)  : k23.M w base ok x [.int .i64 x.f0, .int .i64 x.f1, .string x.f2] := ⟨[.int .i64 x.f0], [.int .i64 x.f1, .string x.f2], rfl, rfl, ⟨[.int .i64 x.f1], [.string x.f2], rfl, rfl, rfl⟩⟩
def rd_T23 (xs : List S23) (i : Int) : S23 := xs.getD i.toNat z23
theorem at_T23 {w : World} {A : Option Addr} {n : Nat} {xs : List S23} (h : Kd.C k23 w A n xs) (i : Int) (h0 : 0 ≤ i) (h1 : i < n) : ∃ ad , A = some ad ∧ w.cell? (ad.add (i.toNat * 3)) = some (.int .i64 (rd_T23 xs i).f0) ∧ w.cell? ⟨(ad.add (i.toNat * 3)).block, (ad.add (i.toNat * 3)).off + 1, none⟩ = some (.int .i64 (rd_T23 xs i).f1) ∧ w.cell? ⟨(ad.add (i.toNat * 3)).block, (ad.add (i.toNat * 3)).off + 2, none⟩ = some (.string (rd_T23 xs i).f2) := by
 obtain ⟨ad, c, e, _, hK, hc0⟩ := Kd.C_get h z23 i h0 h1
 have hc : ∀ j u, c[j]? = some u → w.cell? (ad.add (i.toNat * 3 + j)) = some u := hc0
 obtain rfl := k23_open hK
 exact ⟨ad, e, hc 0 _ rfl, by rw [← add_field _ _ 1 (by omega)]; exact hc 1 _ rfl, by rw [← add_field _ _ 2 (by omega)]; exact hc 2 _ rfl⟩
/-! #### struct type 97 -/
structure S97 where
 f0 : Int
 f1 : ByteArray
 f2 : S48
 f3 : Bool
 f4 : S23
def z97 : S97 := ⟨(0 : Int), (⟨#[]⟩ : ByteArray), z48, false, z23⟩
def k97 : Kd S97 := Kd.iso (Kd.pair (Kd.int .i64) (Kd.pair Kd.string (Kd.pair k48 (Kd.pair Kd.bool k23)))) (fun x : S97 => (x.f0, x.f1, x.f2, x.f3, x.f4))
theorem k97_open {w : World} {x : S97} {cs : List Value} (h : k97.K w x cs) : cs = [.int .i64 x.f0, .string x.f1, .int .i64 x.f2.f0, .int .i64 x.f2.f1, .bool x.f3, .int .i64 x.f4.f0, .int .i64 x.f4.f1, .string x.f4.f2] := by
 obtain ⟨_, _, rfl, rfl, ⟨_, _, rfl, rfl, ⟨_, _, rfl, s2, ⟨_, _, rfl, rfl, s5⟩⟩⟩⟩ := h
 obtain rfl := k48_open s2
 obtain rfl := k23_open s5
 exact rfl
theorem k97_openM {w : World} {base : Nat} {ok : Nat → Prop} {x : S97} {cs : List Value} (h : k97.M w base ok x cs) : cs = [.int .i64 x.f0, .string x.f1, .int .i64 x.f2.f0, .int .i64 x.f2.f1, .bool x.f3, .int .i64 x.f4.f0, .int .i64 x.f4.f1, .string x.f4.f2] := by
 obtain ⟨_, _, rfl, rfl, ⟨_, _, rfl, rfl, ⟨_, _, rfl, s2, ⟨_, _, rfl, rfl, s5⟩⟩⟩⟩ := h
 obtain rfl := k48_openM s2
 obtain rfl := k23_openM s5
 exact rfl
theorem k97_mk (w : World) (x : S97)  : k97.K w x [.int .i64 x.f0, .string x.f1, .int .i64 x.f2.f0, .int .i64 x.f2.f1, .bool x.f3, .int .i64 x.f4.f0, .int .i64 x.f4.f1, .string x.f4.f2] := ⟨[.int .i64 x.f0], [.string x.f1, .int .i64 x.f2.f0, .int .i64 x.f2.f1, .bool x.f3, .int .i64 x.f4.f0, .int .i64 x.f4.f1, .string x.f4.f2], rfl, rfl, ⟨[.string x.f1], [.int .i64 x.f2.f0, .int .i64 x.f2.f1, .bool x.f3, .int .i64 x.f4.f0, .int .i64 x.f4.f1, .string x.f4.f2], rfl, rfl, ⟨[.int .i64 x.f2.f0, .int .i64 x.f2.f1], [.bool x.f3, .int .i64 x.f4.f0, .int .i64 x.f4.f1, .string x.f4.f2], rfl, (k48_mk w x.f2 ), ⟨[.bool x.f3], [.int .i64 x.f4.f0, .int .i64 x.f4.f1, .string x.f4.f2], rfl, rfl, (k23_mk w x.f4 )⟩⟩⟩⟩
theorem k97_mkM (w : World) (base : Nat) (ok : Nat → Prop) (x : S97)  : k97.M w base ok x [.int .i64 x.f0, .string x.f1, .int .i64 x.f2.f0, .int .i64 x.f2.f1, .bool x.f3, .int .i64 x.f4.f0, .int .i64 x.f4.f1, .string x.f4.f2] := ⟨[.int .i64 x.f0], [.string x.f1, .int .i64 x.f2.f0, .int .i64 x.f2.f1, .bool x.f3, .int .i64 x.f4.f0, .int .i64 x.f4.f1, .string x.f4.f2], rfl, rfl, ⟨[.string x.f1], [.int .i64 x.f2.f0, .int .i64 x.f2.f1, .bool x.f3, .int .i64 x.f4.f0, .int .i64 x.f4.f1, .string x.f4.f2], rfl, rfl, ⟨[.int .i64 x.f2.f0, .int .i64 x.f2.f1], [.bool x.f3, .int .i64 x.f4.f0, .int .i64 x.f4.f1, .string x.f4.f2], rfl, (k48_mkM w base ok x.f2 ), ⟨[.bool x.f3], [.int .i64 x.f4.f0, .int .i64 x.f4.f1, .string x.f4.f2], rfl, rfl, (k23_mkM w base ok x.f4 )⟩⟩⟩⟩
def rd_T97 (xs : List S97) (i : Int) : S97 := xs.getD i.toNat z97
theorem at_T97 {w : World} {A : Option Addr} {n : Nat} {xs : List S97} (h : Kd.C k97 w A n xs) (i : Int) (h0 : 0 ≤ i) (h1 : i < n) : ∃ ad , A = some ad ∧ w.cell? (ad.add (i.toNat * 8)) = some (.int .i64 (rd_T97 xs i).f0) ∧ w.cell? ⟨(ad.add (i.toNat * 8)).block, (ad.add (i.toNat * 8)).off + 1, none⟩ = some (.string (rd_T97 xs i).f1) ∧ w.cell? ⟨(ad.add (i.toNat * 8)).block, (ad.add (i.toNat * 8)).off + 2, none⟩ = some (.int .i64 (rd_T97 xs i).f2.f0) ∧ w.cell? ⟨(ad.add (i.toNat * 8)).block, (ad.add (i.toNat * 8)).off + 3, none⟩ = some (.int .i64 (rd_T97 xs i).f2.f1) ∧ w.cell? ⟨(ad.add (i.toNat * 8)).block, (ad.add (i.toNat * 8)).off + 4, none⟩ = some (.bool (rd_T97 xs i).f3) ∧ w.cell? ⟨(ad.add (i.toNat * 8)).block, (ad.add (i.toNat * 8)).off + 5, none⟩ = some (.int .i64 (rd_T97 xs i).f4.f0) ∧ w.cell? ⟨(ad.add (i.toNat * 8)).block, (ad.add (i.toNat * 8)).off + 6, none⟩ = some (.int .i64 (rd_T97 xs i).f4.f1) ∧ w.cell? ⟨(ad.add (i.toNat * 8)).block, (ad.add (i.toNat * 8)).off + 7, none⟩ = some (.string (rd_T97 xs i).f4.f2) := by
 obtain ⟨ad, c, e, _, hK, hc0⟩ := Kd.C_get h z97 i h0 h1
 have hc : ∀ j u, c[j]? = some u → w.cell? (ad.add (i.toNat * 8 + j)) = some u := hc0
 obtain rfl := k97_open hK
 exact ⟨ad, e, hc 0 _ rfl, by rw [← add_field _ _ 1 (by omega)]; exact hc 1 _ rfl, by rw [← add_field _ _ 2 (by omega)]; exact hc 2 _ rfl, by rw [← add_field _ _ 3 (by omega)]; exact hc 3 _ rfl, by rw [← add_field _ _ 4 (by omega)]; exact hc 4 _ rfl, by rw [← add_field _ _ 5 (by omega)]; exact hc 5 _ rfl, by rw [← add_field _ _ 6 (by omega)]; exact hc 6 _ rfl, by rw [← add_field _ _ 7 (by omega)]; exact hc 7 _ rfl⟩
def rd_L8 (xs : List (List S97)) (i : Int) : (List S97) := xs.getD i.toNat ([] : List S97)
theorem at_L8 {w : World} {A : Option Addr} {n : Nat} {xs : List (List S97)} (h : Kd.C (Kd.slice 97 k97) w A n xs) (i : Int) (h0 : 0 ≤ i) (h1 : i < n) : ∃ ad A0 c0, A = some ad ∧ w.cell? (ad.add i.toNat) = some (.slice A0 (rd_L8 xs i).length c0) ∧ (rd_L8 xs i).length ≤ c0 ∧ k97.C w A0 (rd_L8 xs i).length (rd_L8 xs i) := by
 obtain ⟨ad, c, e, _, hK, hc0⟩ := Kd.C_get h ([] : List S97) i h0 h1
 have hc : ∀ j u, c[j]? = some u → w.cell? (ad.add (i.toNat * 1 + j)) = some u := hc0
 obtain ⟨A0, c0, rfl, l0, g0⟩ := hK
 exact ⟨ad, A0, c0, e, by have hq := hc 0 _ rfl; rwa [Nat.mul_one, Nat.add_zero] at hq, l0, g0⟩
/-! #### struct type 63 -/
structure S63 where
 f0 : Int
 f1 : ByteArray
 f2 : Int
 f3 : Int
 f4 : (List S97)
def z63 : S63 := ⟨(0 : Int), (⟨#[]⟩ : ByteArray), (0 : Int), (0 : Int), ([] : List S97)⟩
def k63 : Kd S63 := Kd.iso (Kd.pair (Kd.int .i64) (Kd.pair Kd.string (Kd.pair (Kd.int .i64) (Kd.pair (Kd.int .i64) (Kd.slice 97 k97))))) (fun x : S63 => (x.f0, x.f1, x.f2, x.f3, x.f4))
theorem k63_open {w : World} {x : S63} {cs : List Value} (h : k63.K w x cs) : ∃ A4 c4, cs = [.int .i64 x.f0, .string x.f1, .int .i64 x.f2, .int .i64 x.f3, .slice A4 x.f4.length c4] ∧ x.f4.length ≤ c4 ∧ k97.C w A4 x.f4.length x.f4 := by
 obtain ⟨_, _, rfl, rfl, ⟨_, _, rfl, rfl, ⟨_, _, rfl, rfl, ⟨_, _, rfl, rfl, ⟨A4, c4, rfl, l4, g4⟩⟩⟩⟩⟩ := h
 exact ⟨A4, c4, rfl, l4, g4⟩
theorem k63_openM {w : World} {base : Nat} {ok : Nat → Prop} {x : S63} {cs : List Value} (h : k63.M w base ok x cs) : ∃ v4, cs = [.int .i64 x.f0, .string x.f1, .int .i64 x.f2, .int .i64 x.f3, v4] ∧ k97.R 97 w base ok v4 x.f4 := by
 obtain ⟨_, _, rfl, rfl, ⟨_, _, rfl, rfl, ⟨_, _, rfl, rfl, ⟨_, _, rfl, rfl, ⟨v4, rfl, g4⟩⟩⟩⟩⟩ := h
 exact ⟨v4, rfl, g4⟩
theorem k63_mk (w : World) (x : S63) {A4 : Option Addr} {c4 : Nat} (l4 : x.f4.length ≤ c4) (g4 : k97.C w A4 x.f4.length x.f4) : k63.K w x [.int .i64 x.f0, .string x.f1, .int .i64 x.f2, .int .i64 x.f3, .slice A4 x.f4.length c4] := ⟨[.int .i64 x.f0], [.string x.f1, .int .i64 x.f2, .int .i64 x.f3, .slice A4 x.f4.length c4], rfl, rfl, ⟨[.string x.f1], [.int .i64 x.f2, .int .i64 x.f3, .slice A4 x.f4.length c4], rfl, rfl, ⟨[.int .i64 x.f2], [.int .i64 x.f3, .slice A4 x.f4.length c4], rfl, rfl, ⟨[.int .i64 x.f3], [.slice A4 x.f4.length c4], rfl, rfl, ⟨A4, c4, rfl, l4, g4⟩⟩⟩⟩⟩
theorem k63_mkM (w : World) (base : Nat) (ok : Nat → Prop) (x : S63) {v4 : Value} (g4 : k97.R 97 w base ok v4 x.f4) : k63.M w base ok x [.int .i64 x.f0, .string x.f1, .int .i64 x.f2, .int .i64 x.f3, v4] := ⟨[.int .i64 x.f0], [.string x.f1, .int .i64 x.f2, .int .i64 x.f3, v4], rfl, rfl, ⟨[.string x.f1], [.int .i64 x.f2, .int .i64 x.f3, v4], rfl, rfl, ⟨[.int .i64 x.f2], [.int .i64 x.f3, v4], rfl, rfl, ⟨[.int .i64 x.f3], [v4], rfl, rfl, ⟨v4, rfl, g4⟩⟩⟩⟩⟩
def rd_T63 (xs : List S63) (i : Int) : S63 := xs.getD i.toNat z63
theorem at_T63 {w : World} {A : Option Addr} {n : Nat} {xs : List S63} (h : Kd.C k63 w A n xs) (i : Int) (h0 : 0 ≤ i) (h1 : i < n) : ∃ ad A4 c4, A = some ad ∧ w.cell? (ad.add (i.toNat * 5)) = some (.int .i64 (rd_T63 xs i).f0) ∧ w.cell? ⟨(ad.add (i.toNat * 5)).block, (ad.add (i.toNat * 5)).off + 1, none⟩ = some (.string (rd_T63 xs i).f1) ∧ w.cell? ⟨(ad.add (i.toNat * 5)).block, (ad.add (i.toNat * 5)).off + 2, none⟩ = some (.int .i64 (rd_T63 xs i).f2) ∧ w.cell? ⟨(ad.add (i.toNat * 5)).block, (ad.add (i.toNat * 5)).off + 3, none⟩ = some (.int .i64 (rd_T63 xs i).f3) ∧ w.cell? ⟨(ad.add (i.toNat * 5)).block, (ad.add (i.toNat * 5)).off + 4, none⟩ = some (.slice A4 (rd_T63 xs i).f4.length c4) ∧ (rd_T63 xs i).f4.length ≤ c4 ∧ k97.C w A4 (rd_T63 xs i).f4.length (rd_T63 xs i).f4 := by
 obtain ⟨ad, c, e, _, hK, hc0⟩ := Kd.C_get h z63 i h0 h1
 have hc : ∀ j u, c[j]? = some u → w.cell? (ad.add (i.toNat * 5 + j)) = some u := hc0
 obtain ⟨A4, c4, rfl, l4, g4⟩ := k63_open hK
 exact ⟨ad, A4, c4, e, hc 0 _ rfl, by rw [← add_field _ _ 1 (by omega)]; exact hc 1 _ rfl, by rw [← add_field _ _ 2 (by omega)]; exact hc 2 _ rfl, by rw [← add_field _ _ 3 (by omega)]; exact hc 3 _ rfl, by rw [← add_field _ _ 4 (by omega)]; exact hc 4 _ rfl, l4, g4⟩
theorem hp_s8 : IntKind.u8.signed = false := rfl
theorem hp_m8 : IntKind.u8.max = 255 := by decide
theorem hp_s16 : IntKind.u16.signed = false := rfl
theorem hp_m16 : IntKind.u16.max = 65535 := by decide
theorem hp_s32 : IntKind.u32.signed = false := rfl
theorem hp_m32 : IntKind.u32.max = 4294967295 := by decide
theorem hp_s64 : IntKind.u64.signed = false := rfl
theorem hp_m64 : IntKind.u64.max = 18446744073709551615 := by decide
open Go.Proofs.YtgefikclhfjcgaaDoorW.PrintLast in
/-- A call of a function value that is known, in a region that draws. -/
theorem goesV_ {P : Program} {ops : Array Oper} {Q : Exit → Act → World → Prop} {oi : Oper} {N : Option Tmp} {a : Act} {w : World} {K : Act → World → Prop} {f : FuncId} {fn : Func} {xs_ : Array Operand} {ts : Array TypeId} {c : Operand} (hf : P.funcs[f]? = some fn) (hname : (fn.name == "runtime.NumGoroutine") = false) (hb : fn.body.isSome = true) (cap args : Array Value)
  (hw : Region.wanted oi (yielded ops a.tmps) = true) (hN : oi.dst = N) (hop : oi.op = .call { callee := .value c, args := xs_, argTypes := ts }) (hc : a.eval c = .func (.func f) #[] cap) (hargs : xs_.map a.eval ++ cap = args)
  (h : Calls P f args w fun e w' => ∃ v, e = .returned v ∧ K (a.put N v) w') : if Region.wanted oi (yielded ops a.tmps) = true then Oper.wp P oi a w K Q else K (a.put N undef) w := by
 refine call_ f args hw hN ?_ h
 have he := enters_ hf hname hb args w
 unfold execOp
 simp [hop, resolve, Deferred.ofValue, invoke, hc, hargs, he]
/-- A variable in memory, read as a row of one. -/
theorem hp_C_one {α : Type} {d : Kd α} {w : World} {g t : Nat} {x : α} {cs : List Value} (hk : d.K w x cs) (hb : w.heap[g]? = some (.cells cs.toArray t (0, 0))) : Kd.C d w (some ⟨g, 0, none⟩) 1 [x] := by
 refine ⟨rfl, by decide, fun _ => ⟨_, rfl, fun j p hj => ?_⟩⟩
 have h0 : j = 0 := by
  have := (List.getElem?_eq_some_iff.1 hj).1
  simp at this
  exact this
 subst h0
 obtain rfl : x = p := by simpa using hj
 refine ⟨cs, d.K_len hk, hk, fun i u hu => ?_⟩
 have h1 := blk_cell hb i
 have h2 : (Addr.add ⟨g, 0, none⟩ (0 * d.sz + i)) = ⟨g, i, none⟩ := by simp [Addr.add]; exact fun h => h.symm
 rw [h2, h1]
 simpa using hu
theorem hp_C_kept_one {α : Type} {d : Kd α} {wc W_ : World} {S : Nat → Prop} {g t : Nat} {x : α} {cs : List Value} (hk : Kept wc W_ S) (hK : d.K W_ x cs) (hb : wc.heap[g]? = some (.cells cs.toArray t (0, 0))) (hs : ¬ S g) : Kd.C d W_ (some ⟨g, 0, none⟩) 1 [x] :=
 hp_C_one hK ((hk.2 g (blk_lt hb) hs).trans hb)
section
variable {P : Program} {ops : Array Oper} {rest : List Oper} {o : Oper} {a : Act} {Q : Exit → Act → World → Prop}
/-- Which block a row of bytes has, behind which a text was appended. -/
theorem hp_str_block {w : World} {base : Nat} {t u ty e : TypeId} {i : TypeInfo} (ht : P.underlying t = some (.slice e)) (hu : P.underlying u = some .string) (hi : P.info? e = some i) (hz : i.zero = some (.int .u8 0)) (hsize : i.size = 1) (hby : i.bytes = 1)
  {v : Value} {n : Nat} {xs : List Value} (hown : w.ownsRow base e 1 v n xs) (s : ByteArray) (h63 : n + s.size ≤ maxLen) (hbytes : n + s.size ≤ 140737488355328) {v1 : Value} {w1 : World} (hr1 : (Builtin.append_ #[t, u] ty #[v, .string s]).run P w = .ok v1 w1) :
  v1.ownBlock = v.ownBlock ∨ ∃ b, v1.ownBlock = some b ∧ w.heap.size ≤ b := by
 have hsmall : n + s.size ≤ 9223372036854775807 := by simp only [maxLen] at h63; omega
 have hxl : xs.length = n := by simpa using hown.1
 have hinj : ∀ {x y : Value} {w2 w3 : World}, Result.ok x w2 = Result.ok y w3 → y = x := fun h => by injection h with h1 h2; exact h1.symm
 rcases hown.2 with ⟨rfl, rfl⟩ | ⟨g, cap, cur, rfl, hbg, hg, hnc, hcm, hcs, htake⟩
 ·
  by_cases hm : s.size = 0
  ·
   have hf := Go.Lib.run_firstCells_string (P := P) w 1 s
   rw [hm] at hf
   have : (Builtin.append_ #[t, u] ty #[.slice none 0 0, .string s]).run P w = .ok (.slice none 0 0) w := by
    simp [Builtin.append_, run_underlying ht, run_underlying hu, sizeOf, typeInfo, hi, hsize, Builtin.lenOf, hm, hf]
   rw [this] at hr1
   rw [hinj hr1]
   exact .inl rfl
  ·
   have hr := run_append_nil_string (P := P) w t u ty e i (.int .u8 0) ht hu hi hz s (by omega) (by omega) (by rw [hby]; omega)
   rw [hr] at hr1
   rw [hinj hr1]
   exact .inr ⟨_, rfl, Nat.le_refl _⟩
 ·
  by_cases hroom : n + s.size ≤ cap
  ·
   have hcs' : cur.size = cap := by simpa using hcs
   have hr := Go.Lib.run_append_room_string (P := P) w t u ty e i ht hu hi hsize g n cap cur hg s hroom (by omega)
   rw [hr] at hr1
   rw [hinj hr1]
   exact .inl rfl
  ·
   have holds : ∀ j u, xs[j]? = some u → w.cell? ((⟨g, 0, none⟩ : Addr).add j) = some u := hown.cells (g := g) rfl
   have hr := Go.Lib.run_append_grow_string (P := P) w t u ty e i (.int .u8 0) ht hu hi hz ⟨g, 0, none⟩ n cap xs (by rw [hsize]; simpa using hxl) holds s (by omega) (by omega) (by rw [hby]; exact growslice_fits (by omega) (by omega))
   rw [hr] at hr1
   rw [hinj hr1]
   exact .inr ⟨_, rfl, Nat.le_refl _⟩
/-- print_append_str, and what the row may be is kept. -/
theorem print_append_strM {w0 W : World} (base : Nat) (hgd : o.guard = none) (s x : Operand) (t u e : TypeId)
  (ho : o.op = .call { callee := .builtin .append, args := #[s, x], argTypes := #[t, u] })
  (ht : P.underlying t = some (.slice e)) (hu : P.underlying u = some .string) (hinfo : (P.info? e).map (fun i => (i.zero, i.size, i.bytes)) = some (some (.int .u8 0), 1, 1))
  (v : Value) (xs : List Int) (y : ByteArray) (ok : Nat → Prop) (hs : a.eval s = v) (hx : a.eval x = .string y)
  (HO : (Kd.int .u8).R e W base ok v xs) (hfresh : ∀ k, W.heap.size ≤ k → ok k) (HB : Below base w0 W) (hbase : base ≤ W.heap.size) (hl : xs.length + y.size ≤ 140737488355328)
  (h : ∀ v1 w1, (Kd.int .u8).R e w1 base ok v1 (xs ++ bytesOf y) → Below base w0 w1 → W.grownBy w1 v.ownBlock → wpList P ops Q rest (a.put o.dst v1) w1) :
  wpList P ops Q (o :: rest) a W := by
 obtain ⟨i0, hi, hzz⟩ := Option.map_eq_some_iff.1 hinfo
 simp only [Prod.mk.injEq] at hzz
 obtain ⟨hz0, hz1, hz2⟩ := hzz
 refine wpList_plain hgd fun K hK => ?_
 have HO2 := Kd.own_of_R HO
 have hmx : xs.length + y.size ≤ maxLen := by simp only [maxLen]; omega
 obtain ⟨v1, w1, hr, h2, h3, _⟩ := Go.Lib.run_append_own_string (P := P) W base t u o.type e i0 ht hu hi hz0 hz1 hz2 v xs.length _ HO2 y hmx hl hbase
 have h5 := hp_str_block ht hu hi hz0 hz1 hz2 HO2 y hmx hl hr
 unfold Oper.wp execOp
 simp only [ho, resolve, invoke, builtin, Sem.run_bind, Sem.run_pure, Result.andThen_ok, List.map_toArray, List.map_cons, List.map_nil, hs, hx, hr]
 have hl2 : (xs ++ bytesOf y).length = xs.length + y.size := by rw [List.length_append, bytesOf_length]
 have hc : encs (Value.int .u8) (xs ++ bytesOf y) = encs (Value.int .u8) xs ++ Go.Lib.strCells y := by
  simp [encs, bytesOf, Go.Lib.strCells]
 refine hK _ _ (h v1 w1 (Kd.R_of_own (h1 := fun _ => rfl) (ok := ok) (by rw [hl2, hc]; exact h2) (fun k hk => ?_)) (HB.grown h3 hbase (own_base HO2)) h3)
 rcases h5 with e1 | ⟨b, e1, e2⟩
 ·
  exact HO.1 k (by rw [← e1]; exact hk)
 ·
  rw [hk] at e1
  injection e1 with e1
  rw [e1]
  exact hfresh b e2
end
section
open Go.Maps
open Go.WideMaps (keyOf_string_mk)
/-- A key, as the map's datum has it. -/
def hpKey (s : ByteArray) : Lit := .string s.data.toList
/-- A set of texts, filled in this order. -/
def hpD (l : List ByteArray) : DataW Unit := setOf (.lit (.bool true)) (l.map hpKey)
theorem hpKey_inj {s t : ByteArray} (h : hpKey s = hpKey t) : s = t := by
 injection h with h
 exact ByteArray.ext (Array.toList_inj.1 h)
/-- Is a text in the set? -/
def hpHas (l : List ByteArray) (s : ByteArray) : Bool := l.any (fun t => decide (t = s))
theorem hpKey_is (s : ByteArray) : WideAt.IsKeyLit (hpKey s) := trivial
theorem hpD_at_fold (s : ByteArray) : ∀ l : List ByteArray, (hpD l.reverse).atKey (hpKey s) (.lit (.bool false)) = .lit (.bool (hpHas l s))
 | [] => rfl
 | x :: r => by
  have ih := hpD_at_fold s r
  unfold hpD at ih ⊢
  rw [List.reverse_cons, List.map_append, List.map_cons, List.map_nil, setOf_snoc]
  by_cases e : x = s
  ·
   subst e
   have hk : ∀ y ∈ r.reverse.map hpKey, WideAt.IsKeyLit y := fun y hy => by obtain ⟨z, _, rfl⟩ := List.mem_map.1 hy; exact hpKey_is z
   rw [atKey_put_same (tidy_setOf _ _ hk).isMap (hpKey_is _)]
   simp [hpHas]
  ·
   rw [atKey_put_other (fun h => e (hpKey_inj h).symm), ih]
   simp [hpHas, e]
theorem hpD_at (s : ByteArray) (l : List ByteArray) : (hpD l).atKey (hpKey s) (.lit (.bool false)) = .lit (.bool (hpHas l s)) := by
 have h := hpD_at_fold s l.reverse
 rw [List.reverse_reverse] at h
 rw [h]
 congr 2
 simp [hpHas, List.any_reverse]
theorem hp_law : Keyed Tryd.prog 9 := string_keyed Tryd.underlying9
theorem hp_bool_inv {P : Program} {e : TypeId} (he : P.underlying e = some .bool) {v : Value} {z : DataW Unit × List MemPlace} (h : plainElem P e v = some z) : ∃ b, v = .bool b ∧ z = (.lit (.bool b), []) := by
 unfold plainElem at h
 rw [he] at h
 cases v <;> simp at h
 exact ⟨_, rfl, h.symm⟩
theorem hp_zero (w : World) : (zeroValue 4).run Tryd.prog w = .ok (.bool false) w := by kernel_rfl
/-- Block g holds just these texts, each with true. -/
def HpSet (W : World) (g : Nat) (l : List ByteArray) : Prop := W.ownsMap Tryd.prog 9 (plainElem Tryd.prog 4) g l.length (hpD l)
theorem HpSet.stay {W W1 : World} {g : Nat} {l : List ByteArray} (h : HpSet W g l) (e : W1.heap[g]? = W.heap[g]?) : HpSet W1 g l := by
 obtain ⟨es, clock, hb, r⟩ := h
 exact ⟨es, clock, e.trans hb, r⟩
theorem HpSet.blk {W : World} {g : Nat} {l : List ByteArray} (h : HpSet W g l) : ∃ es c, W.heap[g]? = some (.map es c) := by
 obtain ⟨es, clock, hb, _⟩ := h
 exact ⟨es, clock, hb⟩
theorem HpSet.lt {W : World} {g : Nat} {l : List ByteArray} (h : HpSet W g l) : g < W.heap.size := World.ownsMap.lt h
theorem HpSet.made {W : World} {g : Nat} (h : W.heap[g]? = some (.map #[] 0)) : HpSet W g [] := ⟨#[], 0, h, ⟨by simp, MapKept.stamped_empty 0, by simp⟩, Nat.le_refl _, rfl⟩
set_option maxRecDepth 100000 in
theorem HpSet.look {W : World} {g : Nat} {l : List ByteArray} (h : HpSet W g l) {s : ByteArray} (hs : s.size ≤ maxLen) : (Instr.lookup 134 (.map (some g)) (.string s) false).run Tryd.prog W = .ok (.bool (hpHas l s)) W := by
 obtain ⟨v, ps, hrun, hv⟩ := World.ownsMap.lookup h hp_law Tryd.underlying134 (hp_zero W) (plainElem_bool Tryd.underlying4 false) (keyOf_string_mk Tryd.underlying9 hs)
 obtain ⟨b, rfl, hz⟩ := hp_bool_inv Tryd.underlying4 hv
 have h1 : (hpD l).atKey (.string s.data.toList) (.lit (.bool false)) = .lit (.bool (hpHas l s)) := hpD_at s l
 have h2 : (hpD l).atKey (.string s.data.toList) (.lit (.bool false)) = .lit (.bool b) := congrArg Prod.fst hz
 have h3 : (DataW.lit (.bool (hpHas l s)) : DataW Unit) = .lit (.bool b) := h1.symm.trans h2
 injection h3 with h3
 injection h3 with h3
 rw [hrun, h3]
theorem HpSet.put {W : World} {g : Nat} {l : List ByteArray} (h : HpSet W g l) (hn : l.length < maxLen) {s : ByteArray} (hs : s.size ≤ maxLen) :
  ∃ W1, (Instr.mapUpdate 134 (.map (some g)) (.string s) (.bool true)).run Tryd.prog W = .ok () W1 ∧ HpSet W1 g (l ++ [s]) ∧ W.grownBy W1 (some g) := by
 obtain ⟨W1, hrun, ho, hg⟩ := World.ownsMap.update h hp_law Tryd.underlying134 hn (keyOf_string_mk Tryd.underlying9 hs) (plainElem_bool Tryd.underlying4 true)
 refine ⟨W1, hrun, ?_, hg⟩
 unfold HpSet hpD
 rw [List.map_append, List.map_singleton, setOf_snoc, List.length_append]
 exact ho
end
/-- A map that is the call's own: a set of texts. -/
def IsS200 (w0 W : World) (g : Nat) (f0 : List ByteArray) : Prop := HpSet W g f0 ∧ w0.heap.size ≤ g
section
variable {w0 W : World} {g : Nat} {f0 : List ByteArray}
theorem IsS200.stay {W1 : World} (h : IsS200 w0 W g f0) (e : W1.heap[g]? = W.heap[g]?) : IsS200 w0 W1 g f0 := ⟨h.1.stay e, h.2⟩
theorem IsS200.lt (h : IsS200 w0 W g f0) : g < W.heap.size := h.1.lt
theorem IsS200.ge (h : IsS200 w0 W g f0) : w0.heap.size ≤ g := h.2
theorem IsS200.grown {W1 : World} {row : Option Nat} (h : IsS200 w0 W g f0) (hw : W.grownBy W1 row) (hne : some g ≠ row) : IsS200 w0 W1 g f0 := h.stay (hw.block g h.lt hne)
theorem IsS200.fresh (h : IsS200 w0 W g f0) : ∀ k, W.heap.size ≤ k → k ≠ g := fun k hk e => by have := h.lt; omega
theorem IsS200.kept {W1 : World} {S : Nat → Prop} (h : IsS200 w0 W g f0) (hk : Kept W W1 S) (hne : ¬ S g) : IsS200 w0 W1 g f0 := by
 obtain ⟨es, c, hb⟩ := h.1.blk
 exact h.stay ((blk_kept hb hk hne).trans hb.symm)
theorem IsS200.below {W1 : World} (h : IsS200 w0 W g f0) (hw : Below W.heap.size W W1) : IsS200 w0 W1 g f0 := h.grown (grown_of_below hw none) (by simp)
theorem IsS200.alloc (h : IsS200 w0 W g f0) (o : Obj) : IsS200 w0 (W.alloc o) g f0 := h.below (below_alloc (Below.refl _ _) o)
theorem IsS200.drewN (h : IsS200 w0 W g f0) (m : Nat) : IsS200 w0 (W.drewN m) g f0 := h
theorem IsS200.drew (h : IsS200 w0 W g f0) : IsS200 w0 W.drew g f0 := h
theorem IsS200.at_ {w' : World} {m : Nat} (hq : W.drewN m = w') (h : IsS200 w0 W g f0) : IsS200 w0 w' g f0 := by subst hq; exact IsS200.drewN h m
theorem IsS200.far {p : Addr} (h : IsS200 w0 W g f0) (hne : g ≠ p.block) (u : Value) : IsS200 w0 (W.setCell p u) g f0 := h.stay (Below.heap_setCell W p u g hne)
theorem IsS200.set_0 (h : IsS200 w0 W g f0) (x : Empty) : IsS200 w0 (W.setCell ⟨g, 0, none⟩ (.string ⟨#[]⟩)) g f0 := x.elim
theorem IsS200.ne_blk {a : Nat} {cs : Array Value} {t : TypeId} {fr : Nat × Nat} (h : IsS200 w0 W g f0) (hb2 : W.heap[a]? = some (.cells cs t fr)) (ht : t ≠ 200) : g ≠ a := by
 obtain ⟨es, c, hb⟩ := h.1.blk
 rintro rfl
 rw [hb] at hb2
 cases hb2
theorem IsS200.apart {α : Type} {d : Kd α} {e : Nat} {base : Nat} {ok : Nat → Prop} {v : Value} {xs : List α} (h : IsS200 w0 W g f0) (ho : d.R e W base ok v xs) (ht : ∀ q, q ∈ e :: d.E → q ≠ 200) : d.R e W base (fun k => ok k ∧ k ≠ g) v xs :=
 Kd.R_mono (Kd.R_bound ho) (fun k hk => ⟨hk.1, by
  obtain ⟨_, _, _, q, hq, cells', hc⟩ := hk
  obtain ⟨es, c, hb⟩ := h.1.blk
  rintro rfl
  rw [hb] at hc
  cases hc⟩)
theorem IsS200.own_ne {α : Type} {d : Kd α} {e : Nat} {base : Nat} {ok : Nat → Prop} {v : Value} {xs : List α} (h : IsS200 w0 W g f0) (ho : d.R e W base ok v xs) (ht : e ≠ 200) : some g ≠ v.ownBlock := by
 intro e1
 obtain ⟨inner, ho⟩ := Kd.R_own ho
 obtain ⟨cells, hc⟩ := own_typed ho g e1.symm
 obtain ⟨es, c, hb⟩ := h.1.blk
 rw [hb] at hc
 cases hc
end
/-- A look-up in the call's own map, and a store into it, as calls are told. -/
def HpGet (g : Nat) (s : ByteArray) (w : World) (Q : Ending → World → Prop) : Prop := ∃ v w1, (Instr.lookup 134 (.map (some g)) (.string s) false).run Tryd.prog w = .ok v w1 ∧ Q (.returned v) w1
def HpPut (g : Nat) (s : ByteArray) (w : World) (Q : Ending → World → Prop) : Prop := ∃ w1, (Instr.mapUpdate 134 (.map (some g)) (.string s) (.bool true)).run Tryd.prog w = .ok () w1 ∧ Q (.returned (.tuple #[])) w1
theorem HpGet.mono {g : Nat} {s : ByteArray} {w : World} {Q Q' : Ending → World → Prop} (h : HpGet g s w Q) (hq : ∀ e w1, Q e w1 → Q' e w1) : HpGet g s w Q' := by
 obtain ⟨v, w1, hr, hk⟩ := h
 exact ⟨v, w1, hr, hq _ _ hk⟩
theorem HpPut.mono {g : Nat} {s : ByteArray} {w : World} {Q Q' : Ending → World → Prop} (h : HpPut g s w Q) (hq : ∀ e w1, Q e w1 → Q' e w1) : HpPut g s w Q' := by
 obtain ⟨w1, hr, hk⟩ := h
 exact ⟨w1, hr, hq _ _ hk⟩
def hpmap_get.f (l : List ByteArray) (s : ByteArray) : Option (Bool × List ByteArray) := if s.size ≤ 9223372036854775807 then some (hpHas l s, l) else none
def hpmap_put.f (l : List ByteArray) (s : ByteArray) : Option (List ByteArray) := if s.size ≤ 9223372036854775807 ∧ l.length < 9223372036854775807 then some (l ++ [s]) else none
theorem hpmap_get.calls (g : Nat) (l : List ByteArray) (s : ByteArray) (r : Bool) (l' : List ByteArray) (w0 w : World) (hI : IsS200 w0 w g l) (hB : Below w0.heap.size w0 w) (h : hpmap_get.f l s = some (r, l')) :
  HpGet g s w fun e w' => e = .returned (.bool r) ∧ IsS200 w0 w' g l' ∧ Below w0.heap.size w0 w' ∧ KeepBut w w' g none := by
 unfold hpmap_get.f at h
 split at h
 ·
  simp only [Option.some.injEq, Prod.mk.injEq] at h
  obtain ⟨rfl, rfl⟩ := h
  exact ⟨_, _, hI.1.look (by simp only [maxLen]; omega), rfl, hI, hB, KeepBut.refl _ _ _⟩
 ·
  cases h
theorem hpmap_put.calls (g : Nat) (l : List ByteArray) (s : ByteArray) (l' : List ByteArray) (w0 w : World) (hI : IsS200 w0 w g l) (hB : Below w0.heap.size w0 w) (h : hpmap_put.f l s = some l') :
  HpPut g s w fun e w' => e = .returned (.tuple #[]) ∧ IsS200 w0 w' g l' ∧ Below w0.heap.size w0 w' ∧ KeepBut w w' g none := by
 unfold hpmap_put.f at h
 split at h
 ·
  rename_i hh
  obtain rfl := Option.some.inj h
  obtain ⟨W1, hrun, ho, hg⟩ := hI.1.put (by simp only [maxLen]; omega) (s := s) (by simp only [maxLen]; omega)
  exact ⟨W1, hrun, rfl, ⟨ho, hI.2⟩, hB.grown hg hB.size (fun k hk => by cases hk; exact hI.2), ⟨hg.size, fun i hi hn _ => hg.block i hi (fun e => hn (Option.some.inj e))⟩⟩
 ·
  cases h
section
variable {ops : Array Oper} {rest : List Oper} {o : Oper} {a : Act} {Q : Exit → Act → World → Prop} {w : World} {g : Nat} {s : ByteArray} {m x : Operand}
theorem hpmap_get_op (hg : o.guard = none) (hop : o.op = Op.lookup 134 m x false) (hm : a.eval m = .map (some g)) (hx : a.eval x = .string s) (h : HpGet g s w fun e w' => ∃ v, e = .returned v ∧ wpList Tryd.prog ops Q rest (a.put o.dst v) w') : wpList Tryd.prog ops Q (o :: rest) a w := by
 refine wpList_plain hg fun K' hK' => ?_
 obtain ⟨v, w1, hrun, v', he, hk⟩ := h
 cases he
 unfold Oper.wp
 simp [execOp, hop, hm, hx, hrun, Result.andThen]
 exact hK' _ _ hk
theorem hpmap_put_op (hg : o.guard = none) (hop : o.op = Op.mapUpdate 134 m x (.const (.bool true))) (hm : a.eval m = .map (some g)) (hx : a.eval x = .string s) (h : HpPut g s w fun e w' => ∃ v, e = .returned v ∧ wpList Tryd.prog ops Q rest (a.put o.dst undef) w') : wpList Tryd.prog ops Q (o :: rest) a w := by
 refine wpList_plain hg fun K' hK' => ?_
 obtain ⟨w1, hrun, v', he, hk⟩ := h
 have hc : a.eval (.const (.bool true)) = .bool true := rfl
 unfold Oper.wp
 simp [execOp, hop, hm, hx, hc, hrun, Result.andThen]
 exact hK' _ _ hk
theorem hpmap_goes_put {K : Act → World → Prop} {N : Option Tmp} (hw : Region.wanted o (yielded ops a.tmps) = true) (hN : o.dst = N) (hop : o.op = Op.mapUpdate 134 m x (.const (.bool true))) (hm : a.eval m = .map (some g)) (hx : a.eval x = .string s)
  (h : HpPut g s w fun e w' => ∃ v, e = .returned v ∧ K (a.put N undef) w') : if Region.wanted o (yielded ops a.tmps) = true then Oper.wp Tryd.prog o a w K Q else K (a.put N undef) w := by
 rw [if_pos hw]
 subst hN
 obtain ⟨w1, hrun, v', he, hk⟩ := h
 have hc : a.eval (.const (.bool true)) = .bool true := rfl
 unfold Oper.wp
 simp [execOp, hop, hm, hx, hc, hrun, Result.andThen]
 exact hk
theorem hpmap_goes_get {K : Act → World → Prop} {N : Option Tmp} (hw : Region.wanted o (yielded ops a.tmps) = true) (hN : o.dst = N) (hop : o.op = Op.lookup 134 m x false) (hm : a.eval m = .map (some g)) (hx : a.eval x = .string s)
  (h : HpGet g s w fun e w' => ∃ v, e = .returned v ∧ K (a.put N v) w') : if Region.wanted o (yielded ops a.tmps) = true then Oper.wp Tryd.prog o a w K Q else K (a.put N undef) w := by
 rw [if_pos hw]
 subst hN
 obtain ⟨v, w1, hrun, v', he, hk⟩ := h
 cases he
 unfold Oper.wp
 simp [execOp, hop, hm, hx, hrun, Result.andThen]
 exact hk
theorem hpmap_new_event (hgd : o.guard = none) {N : Tmp} (_hd : o.dst = some N) (hop : o.op = Op.makeMap 134 none)
  (h : ∀ g, g = w.heap.size → ∀ w1, w1.heap[g]? = some (.map #[] 0) → Below w.heap.size w w1 → wpList Tryd.prog ops Q rest (a.put o.dst (.map (some g))) w1) : wpList Tryd.prog ops Q (o :: rest) a w := by
 have hmm := @run_makeMap Tryd.prog
 refine Kd.event_run hgd ?_ (h _ rfl _ (MapKept.heap_alloc w _).1 (below_alloc (Below.refl _ _) _))
 simp [execOp, hop, hmm, Result.andThen]
end
theorem hp_kept_new {w W W2 : World} {S : Nat → Prop} {g : Nat} (h : Kept w W S) (k : KeepBut W W2 g none) (hg : w.heap.size ≤ g) : Kept w W2 S := ⟨Nat.le_trans h.1 k.1, fun i hi hn => (k.2 i (Nat.lt_of_lt_of_le hi h.1) (by omega) (by simp)).trans (h.2 i hi hn)⟩
theorem hp_nil (l : List UInt8) : (l == []) = l.isEmpty := by cases l <;> rfl
/-- What haulage/utf.least holds. -/
def G1 : List Int := [0, 0, 128, 2048, 65536]
/-- The package-level tables hold what the program's text lays in them. -/
structure Glob (w : World) : Prop where
 at1 : Kd.C (Kd.int .i64) w (some ⟨1, 0, none⟩) 5 G1
theorem Glob.below {w w1 : World} (h : Glob w) (hb : Below w.heap.size w w1) : Glob w1 := ⟨Kd.C_below h.at1 hb⟩
theorem Glob.alloc {w : World} (h : Glob w) (o : Obj) : Glob (w.alloc o) := ⟨Kd.C_alloc h.at1 o⟩
theorem Glob.drew {w : World} (h : Glob w) : Glob w.drew := ⟨Kd.C_drew h.at1⟩
theorem Glob.drewN {w : World} (h : Glob w) (n : Nat) : Glob (w.drewN n) := ⟨Kd.C_drewN h.at1 n⟩
theorem cells1 {W_ : World} {g_ t_ : Nat} {a0 : Value} (h : W_.heap[g_]? = some (.cells #[a0] t_ (0, 0))) : W_.cell? ⟨g_, 0, none⟩ = some a0 ∧ W_.frozen? ⟨g_, 0, none⟩ = false := ⟨(blk_cell h 0).trans rfl, blk_frozen h 0⟩
theorem cells2 {W_ : World} {g_ t_ : Nat} {a0 a1 : Value} (h : W_.heap[g_]? = some (.cells #[a0, a1] t_ (0, 0))) : W_.cell? ⟨g_, 0, none⟩ = some a0 ∧ W_.cell? ⟨g_, 1, none⟩ = some a1 ∧ W_.frozen? ⟨g_, 0, none⟩ = false ∧ W_.frozen? ⟨g_, 1, none⟩ = false := ⟨(blk_cell h 0).trans rfl, (blk_cell h 1).trans rfl, blk_frozen h 0, blk_frozen h 1⟩
theorem cellc2 {W_ : World} {g_ t_ : Nat} {a0 a1 : Value} (h : W_.heap[g_]? = some (.cells #[a0, a1] t_ (0, 0))) : W_.cell? ⟨g_, 0, none⟩ = some a0 ∧ W_.cell? ⟨g_, 1, none⟩ = some a1 := ⟨(blk_cell h 0).trans rfl, (blk_cell h 1).trans rfl⟩
theorem cells3 {W_ : World} {g_ t_ : Nat} {a0 a1 a2 : Value} (h : W_.heap[g_]? = some (.cells #[a0, a1, a2] t_ (0, 0))) : W_.cell? ⟨g_, 0, none⟩ = some a0 ∧ W_.cell? ⟨g_, 1, none⟩ = some a1 ∧ W_.cell? ⟨g_, 2, none⟩ = some a2 ∧ W_.frozen? ⟨g_, 0, none⟩ = false ∧ W_.frozen? ⟨g_, 1, none⟩ = false ∧ W_.frozen? ⟨g_, 2, none⟩ = false := ⟨(blk_cell h 0).trans rfl, (blk_cell h 1).trans rfl, (blk_cell h 2).trans rfl, blk_frozen h 0, blk_frozen h 1, blk_frozen h 2⟩
theorem cellc3 {W_ : World} {g_ t_ : Nat} {a0 a1 a2 : Value} (h : W_.heap[g_]? = some (.cells #[a0, a1, a2] t_ (0, 0))) : W_.cell? ⟨g_, 0, none⟩ = some a0 ∧ W_.cell? ⟨g_, 1, none⟩ = some a1 ∧ W_.cell? ⟨g_, 2, none⟩ = some a2 := ⟨(blk_cell h 0).trans rfl, (blk_cell h 1).trans rfl, (blk_cell h 2).trans rfl⟩
theorem cells5 {W_ : World} {g_ t_ : Nat} {a0 a1 a2 a3 a4 : Value} (h : W_.heap[g_]? = some (.cells #[a0, a1, a2, a3, a4] t_ (0, 0))) : W_.cell? ⟨g_, 0, none⟩ = some a0 ∧ W_.cell? ⟨g_, 1, none⟩ = some a1 ∧ W_.cell? ⟨g_, 2, none⟩ = some a2 ∧ W_.cell? ⟨g_, 3, none⟩ = some a3 ∧ W_.cell? ⟨g_, 4, none⟩ = some a4 ∧ W_.frozen? ⟨g_, 0, none⟩ = false ∧ W_.frozen? ⟨g_, 1, none⟩ = false ∧ W_.frozen? ⟨g_, 2, none⟩ = false ∧ W_.frozen? ⟨g_, 3, none⟩ = false ∧ W_.frozen? ⟨g_, 4, none⟩ = false := ⟨(blk_cell h 0).trans rfl, (blk_cell h 1).trans rfl, (blk_cell h 2).trans rfl, (blk_cell h 3).trans rfl, (blk_cell h 4).trans rfl, blk_frozen h 0, blk_frozen h 1, blk_frozen h 2, blk_frozen h 3, blk_frozen h 4⟩
theorem cellc5 {W_ : World} {g_ t_ : Nat} {a0 a1 a2 a3 a4 : Value} (h : W_.heap[g_]? = some (.cells #[a0, a1, a2, a3, a4] t_ (0, 0))) : W_.cell? ⟨g_, 0, none⟩ = some a0 ∧ W_.cell? ⟨g_, 1, none⟩ = some a1 ∧ W_.cell? ⟨g_, 2, none⟩ = some a2 ∧ W_.cell? ⟨g_, 3, none⟩ = some a3 ∧ W_.cell? ⟨g_, 4, none⟩ = some a4 := ⟨(blk_cell h 0).trans rfl, (blk_cell h 1).trans rfl, (blk_cell h 2).trans rfl, (blk_cell h 3).trans rfl, (blk_cell h 4).trans rfl⟩
theorem cells8 {W_ : World} {g_ t_ : Nat} {a0 a1 a2 a3 a4 a5 a6 a7 : Value} (h : W_.heap[g_]? = some (.cells #[a0, a1, a2, a3, a4, a5, a6, a7] t_ (0, 0))) : W_.cell? ⟨g_, 0, none⟩ = some a0 ∧ W_.cell? ⟨g_, 1, none⟩ = some a1 ∧ W_.cell? ⟨g_, 2, none⟩ = some a2 ∧ W_.cell? ⟨g_, 3, none⟩ = some a3 ∧ W_.cell? ⟨g_, 4, none⟩ = some a4 ∧ W_.cell? ⟨g_, 5, none⟩ = some a5 ∧ W_.cell? ⟨g_, 6, none⟩ = some a6 ∧ W_.cell? ⟨g_, 7, none⟩ = some a7 ∧ W_.frozen? ⟨g_, 0, none⟩ = false ∧ W_.frozen? ⟨g_, 1, none⟩ = false ∧ W_.frozen? ⟨g_, 2, none⟩ = false ∧ W_.frozen? ⟨g_, 3, none⟩ = false ∧ W_.frozen? ⟨g_, 4, none⟩ = false ∧ W_.frozen? ⟨g_, 5, none⟩ = false ∧ W_.frozen? ⟨g_, 6, none⟩ = false ∧ W_.frozen? ⟨g_, 7, none⟩ = false := ⟨(blk_cell h 0).trans rfl, (blk_cell h 1).trans rfl, (blk_cell h 2).trans rfl, (blk_cell h 3).trans rfl, (blk_cell h 4).trans rfl, (blk_cell h 5).trans rfl, (blk_cell h 6).trans rfl, (blk_cell h 7).trans rfl, blk_frozen h 0, blk_frozen h 1, blk_frozen h 2, blk_frozen h 3, blk_frozen h 4, blk_frozen h 5, blk_frozen h 6, blk_frozen h 7⟩
theorem cellc8 {W_ : World} {g_ t_ : Nat} {a0 a1 a2 a3 a4 a5 a6 a7 : Value} (h : W_.heap[g_]? = some (.cells #[a0, a1, a2, a3, a4, a5, a6, a7] t_ (0, 0))) : W_.cell? ⟨g_, 0, none⟩ = some a0 ∧ W_.cell? ⟨g_, 1, none⟩ = some a1 ∧ W_.cell? ⟨g_, 2, none⟩ = some a2 ∧ W_.cell? ⟨g_, 3, none⟩ = some a3 ∧ W_.cell? ⟨g_, 4, none⟩ = some a4 ∧ W_.cell? ⟨g_, 5, none⟩ = some a5 ∧ W_.cell? ⟨g_, 6, none⟩ = some a6 ∧ W_.cell? ⟨g_, 7, none⟩ = some a7 := ⟨(blk_cell h 0).trans rfl, (blk_cell h 1).trans rfl, (blk_cell h 2).trans rfl, (blk_cell h 3).trans rfl, (blk_cell h 4).trans rfl, (blk_cell h 5).trans rfl, (blk_cell h 6).trans rfl, (blk_cell h 7).trans rfl⟩
theorem puts3 {w : World} {g t : Nat} {c0 c1 c2 v0 v1 v2 : Value} (h : w.heap[g]? = some (.cells #[c0, c1, c2] t (0, 0))) : (((w.setCell ⟨g, 0, none⟩ v0).setCell ⟨g, 1, none⟩ v1).setCell ⟨g, 2, none⟩ v2).heap[g]? = some (.cells #[v0, v1, v2] t (0, 0)) := by refine blk_put (cs := #[v0, v1, c2]) ?_ 2 _ rfl; refine blk_put (cs := #[v0, c1, c2]) ?_ 1 _ rfl; refine blk_put (cs := #[c0, c1, c2]) ?_ 0 _ rfl; exact h
theorem puts5 {w : World} {g t : Nat} {c0 c1 c2 c3 c4 v0 v1 v2 v3 v4 : Value} (h : w.heap[g]? = some (.cells #[c0, c1, c2, c3, c4] t (0, 0))) : (((((w.setCell ⟨g, 0, none⟩ v0).setCell ⟨g, 1, none⟩ v1).setCell ⟨g, 2, none⟩ v2).setCell ⟨g, 3, none⟩ v3).setCell ⟨g, 4, none⟩ v4).heap[g]? = some (.cells #[v0, v1, v2, v3, v4] t (0, 0)) := by refine blk_put (cs := #[v0, v1, v2, v3, c4]) ?_ 4 _ rfl; refine blk_put (cs := #[v0, v1, v2, c3, c4]) ?_ 3 _ rfl; refine blk_put (cs := #[v0, v1, c2, c3, c4]) ?_ 2 _ rfl; refine blk_put (cs := #[v0, c1, c2, c3, c4]) ?_ 1 _ rfl; refine blk_put (cs := #[c0, c1, c2, c3, c4]) ?_ 0 _ rfl; exact h
theorem puts8 {w : World} {g t : Nat} {c0 c1 c2 c3 c4 c5 c6 c7 v0 v1 v2 v3 v4 v5 v6 v7 : Value} (h : w.heap[g]? = some (.cells #[c0, c1, c2, c3, c4, c5, c6, c7] t (0, 0))) : ((((((((w.setCell ⟨g, 0, none⟩ v0).setCell ⟨g, 1, none⟩ v1).setCell ⟨g, 2, none⟩ v2).setCell ⟨g, 3, none⟩ v3).setCell ⟨g, 4, none⟩ v4).setCell ⟨g, 5, none⟩ v5).setCell ⟨g, 6, none⟩ v6).setCell ⟨g, 7, none⟩ v7).heap[g]? = some (.cells #[v0, v1, v2, v3, v4, v5, v6, v7] t (0, 0)) := by refine blk_put (cs := #[v0, v1, v2, v3, v4, v5, v6, c7]) ?_ 7 _ rfl; refine blk_put (cs := #[v0, v1, v2, v3, v4, v5, c6, c7]) ?_ 6 _ rfl; refine blk_put (cs := #[v0, v1, v2, v3, v4, c5, c6, c7]) ?_ 5 _ rfl; refine blk_put (cs := #[v0, v1, v2, v3, c4, c5, c6, c7]) ?_ 4 _ rfl; refine blk_put (cs := #[v0, v1, v2, c3, c4, c5, c6, c7]) ?_ 3 _ rfl; refine blk_put (cs := #[v0, v1, c2, c3, c4, c5, c6, c7]) ?_ 2 _ rfl; refine blk_put (cs := #[v0, c1, c2, c3, c4, c5, c6, c7]) ?_ 1 _ rfl; refine blk_put (cs := #[c0, c1, c2, c3, c4, c5, c6, c7]) ?_ 0 _ rfl; exact h
def tB (m n : Nat) : Array Bool := ((List.range n).map (fun i => m.testBit i)).toArray
theorem bN : type_of% @pw_below_drewN := @pw_below_drewN
theorem b1 : type_of% @below_drew1 := @below_drew1
theorem bA : type_of% @below_alloc := @below_alloc
theorem bS : type_of% @below_set := @below_set
theorem kN : type_of% @blk_drewN := @blk_drewN
theorem kD : type_of% @blk_drew := @blk_drew
theorem kA : type_of% @blk_alloc := @blk_alloc
theorem bP : type_of% @below_step := @below_step
theorem bZ : type_of% @below_size := @below_size
theorem kF : type_of% @blk_far := @blk_far
theorem kP : type_of% @blk_put := @blk_put
theorem kB : type_of% @blk_below := @blk_below
theorem aM {p : Prop} (h : p) : Aside0 p := Aside0.mk h
theorem s1_ : type_of% @List.setIfInBounds_toArray := @List.setIfInBounds_toArray
theorem s2_ : type_of% @List.set_cons_zero := @List.set_cons_zero
theorem s3_ : type_of% @List.set_cons_succ := @List.set_cons_succ
theorem oD : type_of% @of_decide_eq_true := @of_decide_eq_true
/-! ### closings under short names (a tactic that stands there a thousand times, as an argument's default) -/
section
variable {P : Program} {md : Region.Mode} {ops : Array Oper} {rest : List Oper} {o oi : Oper} {a a' : Act} {Q : Exit → Act → World → Prop} {S : World → Prop} {ds : List Nat} {W w w0 w1 w2 : World}
theorem yB (h : Aside0 (Below w.heap.size w w0)) (r : Below w.heap.size w w0 → Below w.heap.size w w1 := by intro h_; repeat (first | (with_reducible first | exact h_ | apply below_alloc | apply pw_below_drewN | apply below_drew1) | exact h_)) : Below w.heap.size w w1 := r h.out
theorem yG1 {p1 : Prop} (h : Aside0 (Below w.heap.size w w0)) (e1 : p1) (r : p1 → Below w.heap.size w w0 → Below w.heap.size w w1 := by intro e1_ h_; repeat (first | (with_reducible first | exact h_ | apply below_alloc | apply pw_below_drewN | apply below_drew1 | refine below_set ?_ e1_) | exact h_)) : Below w.heap.size w w1 := r e1 h.out
theorem yG2 {p1 p2 : Prop} (h : Aside0 (Below w.heap.size w w0)) (e1 : p1) (e2 : p2) (r : p1 → p2 → Below w.heap.size w w0 → Below w.heap.size w w1 := by intro e1_ e2_ h_; repeat (first | (with_reducible first | exact h_ | apply below_alloc | apply pw_below_drewN | apply below_drew1 | refine below_set ?_ e1_ | refine below_set ?_ e2_) | exact h_)) : Below w.heap.size w w1 := r e1 e2 h.out
theorem yG3 {p1 p2 p3 : Prop} (h : Aside0 (Below w.heap.size w w0)) (e1 : p1) (e2 : p2) (e3 : p3) (r : p1 → p2 → p3 → Below w.heap.size w w0 → Below w.heap.size w w1 := by intro e1_ e2_ e3_ h_; repeat (first | (with_reducible first | exact h_ | apply below_alloc | apply pw_below_drewN | apply below_drew1 | refine below_set ?_ e1_ | refine below_set ?_ e2_ | refine below_set ?_ e3_) | exact h_)) : Below w.heap.size w w1 := r e1 e2 e3 h.out
theorem yG4 {p1 p2 p3 p4 : Prop} (h : Aside0 (Below w.heap.size w w0)) (e1 : p1) (e2 : p2) (e3 : p3) (e4 : p4) (r : p1 → p2 → p3 → p4 → Below w.heap.size w w0 → Below w.heap.size w w1 := by intro e1_ e2_ e3_ e4_ h_; repeat (first | (with_reducible first | exact h_ | apply below_alloc | apply pw_below_drewN | apply below_drew1 | refine below_set ?_ e1_ | refine below_set ?_ e2_ | refine below_set ?_ e3_ | refine below_set ?_ e4_) | exact h_)) : Below w.heap.size w w1 := r e1 e2 e3 e4 h.out
theorem yK {g : Nat} {b : Obj} (h : Aside0 (w0.heap[g]? = some b)) (r : w0.heap[g]? = some b → w1.heap[g]? = some b := by intro h_; (with_reducible repeat (first | refine blk_drewN ?_ _ | refine blk_drew ?_ | refine blk_alloc ?_ _)); exact h_) : w1.heap[g]? = some b := r h.out
theorem yF1 {g : Nat} {b : Obj} {p1 : Prop} (h : Aside0 (w0.heap[g]? = some b)) (e1 : p1) (r : p1 → w0.heap[g]? = some b → w1.heap[g]? = some b := by intro e1_ h_; (repeat ((with_reducible repeat (first | refine blk_drewN ?_ _ | refine blk_drew ?_ | refine blk_alloc ?_ _)); refine blk_far ?_ e1_ _)); (with_reducible repeat (first | refine blk_drewN ?_ _ | refine blk_drew ?_ | refine blk_alloc ?_ _)); exact h_) : w1.heap[g]? = some b := r e1 h.out
theorem yZ {g : Nat} (hg : g = w1.heap.size) (b : Below w.heap.size w w1) : Aside0 (w.heap.size ≤ g) := ⟨by rw [hg]; exact below_size b⟩
theorem yN {g gb : Nat} {b : Obj} (hg : gb = w1.heap.size) (h : w1.heap[g]? = some b) : Aside0 (g ≠ gb) := ⟨by rw [hg]; exact Nat.ne_of_lt (blk_lt h)⟩
theorem yM {g gb : Nat} {b : Obj} (hg : gb = w1.heap.size) (h : w1.heap[g]? = some b) : Aside0 (gb ≠ g) := ⟨by rw [hg]; exact Nat.ne_of_gt (blk_lt h)⟩
theorem yV {g : Nat} {t : TypeId} {cs : Array Value} (h : Aside0 (w.heap[g]? = some (.cells cs t (0, 0)))) (i : Nat) {v : Value} (e : cs[i]? = some v := by rfl) : w.cell? ⟨g, i, none⟩ = some v := (blk_cell h.out i).trans e
theorem yE {p : Prop} (h : p := by first | rfl | (simp [errW_none, errW_some] <;> rfl) | (simp [*, errW_none, errW_some] <;> rfl)) : p := h
theorem yS {p : Prop} (h : p := by first | rfl | (simp; done) | (simp [*]; done)) : p := h
theorem yO {p : Prop} (h : p := by first | omega | exact Nat.le_refl _) : p := h
theorem yD (h : Drawn0 w w1 := by repeat (first | exact Drawn0.refl _ | apply Drawn0.step)) : Drawn0 w w1 := h
theorem yA {p : Prop} (h : p := by first | (with_reducible assumption) | assumption) : p := h
theorem yW {p q : Prop} (h : p) (r : p → q := by intro h_; repeat (first | exact h_ | (with_reducible refine Kd.C_alloc ?_ _) | (with_reducible refine Kd.C_drewN ?_ _) | (with_reducible refine Kd.C_drew ?_))) : q := r h
theorem yR {p q : Prop} (h : p) (r : p → q := by intro h_; (with_reducible repeat (first | apply Kd.R_alloc | apply Kd.R_drewN | apply Kd.R_drew)); exact h_) : q := r h
theorem yX {N : Tmp} {cs : Array Value} {t : TypeId} (h : ∀ g, g = W.heap.size → ∀ w1, w1.heap[g]? = some (.cells cs t (0, 0)) → Below W.heap.size W w1 → wpList P ops Q rest (a.put o.dst (.pointer (some ⟨g, 0, none⟩))) w1) (hgd : o.guard = none := by rfl) (hd : o.dst = some N := by rfl)
    (hrun : (execOp a.eval o).run P W = .ok (.value (.pointer (some ⟨W.heap.size, 0, none⟩))) (W.alloc (.cells cs t (0, 0))) := by first | (go_simp; done) | (go_simp; rfl)) : wpList P ops Q (o :: rest) a W := box_event hgd hd hrun h
theorem yC (N : Tmp) {f : FuncId} {fn : Func} {ar : Array Operand} {ts : Array TypeId} (hf : P.funcs[f]? = some fn) (args : Array Value) (hop : oi.op = .call { callee := .value (.func f), args := ar, argTypes := ts })
    (h : Calls P f args w fun e w' => ∃ v, e = .returned v ∧ wpList P ops Q rest (a.put (some N) v) w') (hd : oi.dst = some N := by rfl) (hg : oi.guard = none := by rfl) (hname : (fn.name == "runtime.NumGoroutine") = false := by kernel_rfl) (hb : fn.body.isSome = true := by rfl)
    (hargs : ar.map a.eval = args := by (try simp only [List.map_toArray, List.map_cons, List.map_nil]); first | done | rfl | (simp only [List.length_drop, List.length_take]; rfl)) : wpList P ops Q (oi :: rest) a w := goesL_ (some N) hd hg hf hname hb args hop hargs h
theorem yc {N : Option Tmp} {K : Act → World → Prop} {f : FuncId} {fn : Func} {ar : Array Operand} {ts : Array TypeId} (hf : P.funcs[f]? = some fn) (args : Array Value) (hN : oi.dst = N) (hop : oi.op = .call { callee := .value (.func f), args := ar, argTypes := ts })
    (h : Calls P f args w fun e w' => ∃ v, e = .returned v ∧ K (a.put N v) w') (hw : Region.wanted oi (yielded ops a.tmps) = true := by rfl) (hname : (fn.name == "runtime.NumGoroutine") = false := by kernel_rfl) (hb : fn.body.isSome = true := by rfl)
    (hargs : ar.map a.eval = args := by (try simp only [List.map_toArray, List.map_cons, List.map_nil]); first | done | rfl | (simp only [List.length_drop, List.length_take]; rfl)) : if Region.wanted oi (yielded ops a.tmps) = true then Oper.wp P oi a w K Q else K (a.put N undef) w := goes_ hf hname hb args hw hN hop hargs h
theorem yP {T : Bool × List (List Nat × List Nat)} {fuel : Nat} {v : Value} {l : Array Bool} (hT : Aside0 (rtab md ops = T)) (i : Nat) (N : Tmp) (l' : Array Bool) (hi : ops[i]? = some oi) (hN : oi.dst = some N) (h : wpAnyLast P md ops Q S ds fuel l' a' w) (hc : anyT T l.toList l'.toList i = true := by kernel_rfl)
    (hQ : ∀ c a w, Q (.panic c) (a.put oi.dst v) w → Q (.panic c) a w := by exact fun _ _ _ h_ => h_) (hw : Region.wanted oi (yielded ops a.tmps) = true := by rfl) (hy : ∀ w, (execOp a.eval oi).run P w = .ok (.value v) w := by intro w'; go_simp; with_reducible rfl)
    (ha : a.put (some N) v = a' := by simp only [Act.put, List.setIfInBounds_toArray, List.set_cons_zero, List.set_cons_succ, i64_w, i32_w]; rfl) : wpAnyLast P md ops Q S ds (fuel + 1) l a w := pure_ l' hi hN (any_of hT.out hc) hQ (Or.inl ⟨hw, hy⟩) ha h
theorem yP0 {fuel : Nat} {v : Value} {l : Array Bool} (i : Nat) (N : Tmp) (l' : Array Bool) (hi : ops[i]? = some oi) (hN : oi.dst = some N) (h : wpAnyLast P md ops Q S ds fuel l' a' w) (hc : anyB md ops l l' i = true := by kernel_rfl)
    (hQ : ∀ c a w, Q (.panic c) (a.put oi.dst v) w → Q (.panic c) a w := by exact fun _ _ _ h_ => h_) (hw : Region.wanted oi (yielded ops a.tmps) = true := by rfl) (hy : ∀ w, (execOp a.eval oi).run P w = .ok (.value v) w := by intro w'; go_simp; with_reducible rfl)
    (ha : a.put (some N) v = a' := by simp only [Act.put, List.setIfInBounds_toArray, List.set_cons_zero, List.set_cons_succ, i64_w, i32_w]; rfl) : wpAnyLast P md ops Q S ds (fuel + 1) l a w := pure_ l' hi hN hc hQ (Or.inl ⟨hw, hy⟩) ha h
theorem yU {T : Bool × List (List Nat × List Nat)} {fuel : Nat} {l : Array Bool} (hT : Aside0 (rtab md ops = T)) (i : Nat) (N : Tmp) (l' : Array Bool) (hi : ops[i]? = some oi) (hN : oi.dst = some N) (h : wpAnyLast P md ops Q S ds fuel l' a' w) (hc : anyT T l.toList l'.toList i = true := by kernel_rfl)
    (hQ : ∀ c a w, Q (.panic c) (a.put oi.dst undef) w → Q (.panic c) a w := by exact fun _ _ _ h_ => h_) (hw : Region.wanted oi (yielded ops a.tmps) = false := by rfl)
    (ha : a.put (some N) undef = a' := by simp only [Act.put, List.setIfInBounds_toArray, List.set_cons_zero, List.set_cons_succ, i64_w, i32_w]; rfl) : wpAnyLast P md ops Q S ds (fuel + 1) l a w := pure_ l' hi hN (any_of hT.out hc) hQ (Or.inr ⟨hw, rfl⟩) ha h
theorem yT {T : Bool × List (List Nat × List Nat)} {B : List Nat} {fuel : Nat} {v : Value} {l : Array Bool} (hT : Aside0 (rtab md ops = T)) (hB : Aside0 (waitsOk T.2 B = true)) (i : Nat) (N : Tmp) (l' : Array Bool) (hi : ops[i]? = some oi) (hN : oi.dst = some N) (hS : S w) (h : wpAnyLast P md ops Q S ds fuel l' a' w) (hc : takeW T B ds l.toList l'.toList i = true := by kernel_rfl)
    (hQ : ∀ c a w, Q (.panic c) (a.put oi.dst v) w → Q (.panic c) a w := by exact fun _ _ _ h_ => h_) (hw : Region.wanted oi (yielded ops a.tmps) = true := by rfl) (hy : ∀ w, S w → (execOp a.eval oi).run P w = .ok (.value v) w := by intro w' hs_; (repeat (obtain ⟨s_, hs_⟩ := hs_)); go_simp; with_reducible rfl)
    (ha : a.put (some N) v = a' := by simp only [Act.put, List.setIfInBounds_toArray, List.set_cons_zero, List.set_cons_succ, i64_w, i32_w]; rfl) : wpAnyLast P md ops Q S ds (fuel + 1) l a w := take_ l' hi hN (take_ofW hT.out hB.out hc) hQ (Or.inl ⟨hw, hy⟩) hS ha h
theorem yT0 {fuel : Nat} {v : Value} {l : Array Bool} (i : Nat) (N : Tmp) (l' : Array Bool) (hi : ops[i]? = some oi) (hN : oi.dst = some N) (hS : S w) (h : wpAnyLast P md ops Q S ds fuel l' a' w) (hc : takeB md ops ds l l' i = true := by kernel_rfl)
    (hQ : ∀ c a w, Q (.panic c) (a.put oi.dst v) w → Q (.panic c) a w := by exact fun _ _ _ h_ => h_) (hw : Region.wanted oi (yielded ops a.tmps) = true := by rfl) (hy : ∀ w, S w → (execOp a.eval oi).run P w = .ok (.value v) w := by intro w' hs_; (repeat (obtain ⟨s_, hs_⟩ := hs_)); go_simp; with_reducible rfl)
    (ha : a.put (some N) v = a' := by simp only [Act.put, List.setIfInBounds_toArray, List.set_cons_zero, List.set_cons_succ, i64_w, i32_w]; rfl) : wpAnyLast P md ops Q S ds (fuel + 1) l a w := take_ l' hi hN hc hQ (Or.inl ⟨hw, hy⟩) hS ha h
theorem yI {T : Bool × List (List Nat × List Nat)} {N : Option Tmp} {fuel : Nat} {l : Array Bool} (hT : Aside0 (rtab md ops = T)) (i : Nat) (l' : Array Bool) (hi : ops[i]? = some oi) (hN : oi.dst = N) (h : ∀ K : Act → World → Prop, Shut (∀ a' w', S w' → (S w' → wpAnyLast P md ops Q S ds fuel l' a' w') → K a' w') → if Region.wanted oi (yielded ops a.tmps) = true then Oper.wp P oi a w K Q else K (a.put N undef) w)
    (hc : (readyT T.2 l.toList == [i] && l.toList.set i true == l'.toList) = true := by kernel_rfl) (hd : i ∉ ds := by decide) : wpAnyLast P md ops Q S ds (fuel + 1) l a w := one_ l' hi hN (one_of hT.out hc) hd h
theorem yI0 {N : Option Tmp} {fuel : Nat} {l : Array Bool} (i : Nat) (l' : Array Bool) (hi : ops[i]? = some oi) (hN : oi.dst = N) (h : ∀ K : Act → World → Prop, Shut (∀ a' w', S w' → (S w' → wpAnyLast P md ops Q S ds fuel l' a' w') → K a' w') → if Region.wanted oi (yielded ops a.tmps) = true then Oper.wp P oi a w K Q else K (a.put N undef) w)
    (hc : readyB md ops l l' i = true := by kernel_rfl) (hd : i ∉ ds := by decide) : wpAnyLast P md ops Q S ds (fuel + 1) l a w := one_ l' hi hN hc hd h
end
theorem yb {α β : Type} {o : Option α} {f : α → Option β} {r : β} (h : o.bind f = some r) : ∃ x, Aside0 (o = some x) ∧ f x = some r := by
 obtain ⟨x, h1, h2⟩ := Option.bind_eq_some_iff.mp h
 exact ⟨x, ⟨h1⟩, h2⟩
theorem yt {α : Type} {a b r : α} (h : (if true = true then a else b) = r) : a = r := h
theorem yf {α : Type} {a b r : α} (h : (if false = true then a else b) = r) : b = r := h
theorem cF3 {W : World} {a : Addr} {g o0 o1 o2 : Nat} {u0 u1 u2 v : Value} (h : a.block ≠ g) (e : W.cell? a = some v) : (((W.setCell ⟨g, o0, none⟩ u0).setCell ⟨g, o1, none⟩ u1).setCell ⟨g, o2, none⟩ u2).cell? a = some v := (cell_far (p := ⟨g, o2, none⟩) h u2).trans ((cell_far (p := ⟨g, o1, none⟩) h u1).trans ((cell_far (p := ⟨g, o0, none⟩) h u0).trans (e)))
end Go.Proofs.YtgefikclhfjcgaaDoor.HCatcodeValues

/- For Go functions that SumTells reaches: Lean functions, and walks that show that each call comes to what its Lean function tells; no condition but those that each theorem states. (Made by a program of this session over the kit's print.py.) -/
import Derived.Test.YtapjhgenjghfbaaDoorProg
import Derived.Below
import Derived.Deep.Draws
import Derived.Deep.AppendLies
import Derived.Maps.AppendAt
import Derived.OwnWalk
import Derived.Laws.BytesArg
import Derived.Laws.MakeOwn
import Derived.Laws.OwnMore
import Derived.Deep.OwnRows
import Derived.Tactics
import Derived.Lib.ConvBytes
import Derived.Laws.Slices
import Derived.WalkKit
import Derived.KernelRfl
import Derived.RowKit3
import Derived.Deep.LoopGhost
import Derived.Deep.QuietTactic
import Derived.BigQuiet
import Derived.WideLaws
import Derived.Deep.DeepCutAuto
import Derived.Deep.CutBlock
import Derived.Deep.RegionHeld3
import Derived.Laws.Rows
import Derived.Lib.AppendStr
import Derived.ArgAppend
import Derived.Laws.IdiomCopy
import Derived.OrdersHeld
import Derived.Laws.BitsLemmas
import Derived.RowKit
import Derived.Maps.OwnSet
import Derived.Test.YtapjhgenjghfbaaDoorWWords
import Derived.Test.YtapjhgenjghfbaaDoorWLast
import Derived.Test.YtapjhgenjghfbaaDoorWTab
import Derived.Test.YtapjhgenjghfbaaDoorWFour
import Derived.Test.YtapjhgenjghfbaaDoorWQPut
import Derived.Test.YtapjhgenjghfbaaDoorWApart
import Derived.Test.YtapjhgenjghfbaaDoorWArr
import Derived.Test.YtapjhgenjghfbaaDoorWZeros
import Derived.Test.YtapjhgenjghfbaaDoorWFoot
import Derived.Test.YtapjhgenjghfbaaDoorWKept
import Derived.Test.YtapjhgenjghfbaaDoorWShare
import Derived.Test.YtapjhgenjghfbaaDoorWN
import Derived.Test.YtapjhgenjghfbaaDoorWFootNe
import Derived.Test.YtapjhgenjghfbaaDoorWAt
import Derived.Test.YtapjhgenjghfbaaDoorWEqStruct
import Derived.Test.YtapjhgenjghfbaaDoorWRepsOne
import Derived.Test.YtapjhgenjghfbaaDoorWInv
import Derived.Test.YtapjhgenjghfbaaDoorWInvWords
import Derived.Test.YtapjhgenjghfbaaDoorWGuard
import Derived.Test.YtapjhgenjghfbaaDoorWNEv
import Derived.Test.YtapjhgenjghfbaaDoorWMore
namespace Go.Proofs.YtapjhgenjghfbaaDoor.HSumTells
open Go.RowKit Go.Proofs.YtapjhgenjghfbaaDoorW.PrintWords Go.Proofs.YtapjhgenjghfbaaDoorW.PrintLast Go.Proofs.YtapjhgenjghfbaaDoorW.PrintMore
attribute [local go_sem] max2_int min2_int max_two min_two max_three min_three max_four min_four   -- for this text's walks alone
set_option linter.unusedVariables false
set_option linter.unusedSimpArgs false



def errW : Option Int → Value
  | none => .nilIface
  | some c => .iface 0 (.int .i64 c)
theorem errW_none : errW none = .nilIface := rfl
theorem errW_some (c : Int) : errW (some c) = .iface 0 (.int .i64 c) := rfl

theorem info5 : (Tryd.prog.info? 5).map (fun i => (i.zero, i.size, i.bytes)) = some (some (.int .u8 0), 1, 1) := by kernel_rfl
theorem info9 : (Tryd.prog.info? 9).map (fun i => (i.zero, i.size, i.bytes)) = some (some (.string ⟨#[]⟩), 1, 16) := by kernel_rfl
-- the values' own types
/-! #### struct type 23 -/
structure S23 where
  f0 : Int
  f1 : Int
  f2 : Int
  f3 : Int
def z23 : S23 := ⟨(0 : Int), (0 : Int), (0 : Int), (0 : Int)⟩
def k23 : Kd S23 := Kd.iso (Kd.pair (Kd.int .u8) (Kd.pair (Kd.int .u8) (Kd.pair (Kd.int .u8) (Kd.int .u8)))) (fun x : S23 => (x.f0, x.f1, x.f2, x.f3))
theorem k23_open {w : World} {x : S23} {cs : List Value} (h : k23.K w x cs) : cs = [.int .u8 x.f0, .int .u8 x.f1, .int .u8 x.f2, .int .u8 x.f3] := by
  obtain ⟨_, _, rfl, rfl, ⟨_, _, rfl, rfl, ⟨_, _, rfl, rfl, rfl⟩⟩⟩ := h
  exact rfl
theorem k23_openM {w : World} {base : Nat} {ok : Nat → Prop} {x : S23} {cs : List Value} (h : k23.M w base ok x cs) : cs = [.int .u8 x.f0, .int .u8 x.f1, .int .u8 x.f2, .int .u8 x.f3] := by
  obtain ⟨_, _, rfl, rfl, ⟨_, _, rfl, rfl, ⟨_, _, rfl, rfl, rfl⟩⟩⟩ := h
  exact rfl
theorem k23_mk (w : World) (x : S23)  : k23.K w x [.int .u8 x.f0, .int .u8 x.f1, .int .u8 x.f2, .int .u8 x.f3] := ⟨[.int .u8 x.f0], [.int .u8 x.f1, .int .u8 x.f2, .int .u8 x.f3], rfl, rfl, ⟨[.int .u8 x.f1], [.int .u8 x.f2, .int .u8 x.f3], rfl, rfl, ⟨[.int .u8 x.f2], [.int .u8 x.f3], rfl, rfl, rfl⟩⟩⟩
theorem k23_mkM (w : World) (base : Nat) (ok : Nat → Prop) (x : S23)  : k23.M w base ok x [.int .u8 x.f0, .int .u8 x.f1, .int .u8 x.f2, .int .u8 x.f3] := ⟨[.int .u8 x.f0], [.int .u8 x.f1, .int .u8 x.f2, .int .u8 x.f3], rfl, rfl, ⟨[.int .u8 x.f1], [.int .u8 x.f2, .int .u8 x.f3], rfl, rfl, ⟨[.int .u8 x.f2], [.int .u8 x.f3], rfl, rfl, rfl⟩⟩⟩
def rd_T23 (xs : List S23) (i : Int) : S23 := xs.getD i.toNat z23
theorem at_T23 {w : World} {A : Option Addr} {n : Nat} {xs : List S23} (h : Kd.C k23 w A n xs) (i : Int) (h0 : 0 ≤ i) (h1 : i < n) : ∃ ad , A = some ad ∧ w.cell? (ad.add (i.toNat * 4)) = some (.int .u8 (rd_T23 xs i).f0) ∧ w.cell? ⟨(ad.add (i.toNat * 4)).block, (ad.add (i.toNat * 4)).off + 1, none⟩ = some (.int .u8 (rd_T23 xs i).f1) ∧ w.cell? ⟨(ad.add (i.toNat * 4)).block, (ad.add (i.toNat * 4)).off + 2, none⟩ = some (.int .u8 (rd_T23 xs i).f2) ∧ w.cell? ⟨(ad.add (i.toNat * 4)).block, (ad.add (i.toNat * 4)).off + 3, none⟩ = some (.int .u8 (rd_T23 xs i).f3) := by
  obtain ⟨ad, c, e, _, hK, hc0⟩ := Kd.C_get h z23 i h0 h1
  have hc : ∀ j u, c[j]? = some u → w.cell? (ad.add (i.toNat * 4 + j)) = some u := hc0
  obtain rfl := k23_open hK
  exact ⟨ad, e, hc 0 _ rfl, by rw [← add_field _ _ 1 (by omega)]; exact hc 1 _ rfl, by rw [← add_field _ _ 2 (by omega)]; exact hc 2 _ rfl, by rw [← add_field _ _ 3 (by omega)]; exact hc 3 _ rfl⟩

theorem hp_s8 : IntKind.u8.signed = false := rfl
theorem hp_m8 : IntKind.u8.max = 255 := by decide
theorem hp_s16 : IntKind.u16.signed = false := rfl
theorem hp_m16 : IntKind.u16.max = 65535 := by decide
theorem hp_s32 : IntKind.u32.signed = false := rfl
theorem hp_m32 : IntKind.u32.max = 4294967295 := by decide
theorem hp_s64 : IntKind.u64.signed = false := rfl
theorem hp_m64 : IntKind.u64.max = 18446744073709551615 := by decide
open Go.Proofs.YtapjhgenjghfbaaDoorW.PrintLast in
/-- A call of a function value that is known, in a region that draws. -/
theorem goesV_ {P : Program} {ops : Array Oper} {Q : Exit → Act → World → Prop} {oi : Oper} {N : Option Tmp} {a : Act} {w : World} {K : Act → World → Prop} {f : FuncId} {fn : Func} {xs_ : Array Operand} {ts : Array TypeId} {c : Operand} (hf : P.funcs[f]? = some fn) (hname : (fn.name == "runtime.NumGoroutine") = false) (hb : fn.body.isSome = true) (cap args : Array Value)
    (hw : Region.wanted oi (yielded ops a.tmps) = true) (hN : oi.dst = N) (hop : oi.op = .call { callee := .value c, args := xs_, argTypes := ts }) (hc : a.eval c = .func (.func f) #[] cap) (hargs : xs_.map a.eval ++ cap = args)
    (h : Calls P f args w fun e w' => ∃ v, e = .returned v ∧ K (a.put N v) w') : if Region.wanted oi (yielded ops a.tmps) = true then Oper.wp P oi a w K Q else K (a.put N undef) w := by
  refine call_ f args hw hN ?_ h
  have he := enters_ hf hname hb args w
  unfold execOp
  simp [hop, resolve, Deferred.ofValue, invoke, hc, hargs, he]
/-- A variable in memory, read as a row of one. -/
theorem hp_C_one {α : Type} {d : Kd α} {w : World} {g t : Nat} {x : α} {cs : List Value} (hk : d.K w x cs) (hb : w.heap[g]? = some (.cells cs.toArray t (0, 0))) : Kd.C d w (some ⟨g, 0, none⟩) 1 [x] := by
  refine ⟨rfl, by decide, fun _ => ⟨_, rfl, fun j p hj => ?_⟩⟩
  have h0 : j = 0 := by
    have := (List.getElem?_eq_some_iff.1 hj).1
    simp at this
    exact this
  subst h0
  obtain rfl : x = p := by simpa using hj
  refine ⟨cs, d.K_len hk, hk, fun i u hu => ?_⟩
  have h1 := blk_cell hb i
  have h2 : (Addr.add ⟨g, 0, none⟩ (0 * d.sz + i)) = ⟨g, i, none⟩ := by simp [Addr.add]; exact fun h => h.symm
  rw [h2, h1]
  simpa using hu
theorem hp_C_kept_one {α : Type} {d : Kd α} {wc W_ : World} {S : Nat → Prop} {g t : Nat} {x : α} {cs : List Value} (hk : Kept wc W_ S) (hK : d.K W_ x cs) (hb : wc.heap[g]? = some (.cells cs.toArray t (0, 0))) (hs : ¬ S g) : Kd.C d W_ (some ⟨g, 0, none⟩) 1 [x] :=
  hp_C_one hK ((hk.2 g (blk_lt hb) hs).trans hb)
section
variable {P : Program} {ops : Array Oper} {rest : List Oper} {o : Oper} {a : Act} {Q : Exit → Act → World → Prop}
/-- Which block a row of bytes has, behind which a text was appended. -/
theorem hp_str_block {w : World} {base : Nat} {t u ty e : TypeId} {i : TypeInfo} (ht : P.underlying t = some (.slice e)) (hu : P.underlying u = some .string) (hi : P.info? e = some i) (hz : i.zero = some (.int .u8 0)) (hsize : i.size = 1) (hby : i.bytes = 1)
    {v : Value} {n : Nat} {xs : List Value} (hown : w.ownsRow base e 1 v n xs) (s : ByteArray) (h63 : n + s.size ≤ maxLen) (hbytes : n + s.size ≤ 140737488355328) {v1 : Value} {w1 : World} (hr1 : (Builtin.append_ #[t, u] ty #[v, .string s]).run P w = .ok v1 w1) :
    v1.ownBlock = v.ownBlock ∨ ∃ b, v1.ownBlock = some b ∧ w.heap.size ≤ b := by
  have hsmall : n + s.size ≤ 9223372036854775807 := by simp only [maxLen] at h63; omega
  have hxl : xs.length = n := by simpa using hown.1
  have hinj : ∀ {x y : Value} {w2 w3 : World}, Result.ok x w2 = Result.ok y w3 → y = x := fun h => by injection h with h1 h2; exact h1.symm
  rcases hown.2 with ⟨rfl, rfl⟩ | ⟨g, cap, cur, rfl, hbg, hg, hnc, hcm, hcs, htake⟩
  · by_cases hm : s.size = 0
    · have hf := Go.Lib.run_firstCells_string (P := P) w 1 s
      rw [hm] at hf
      have : (Builtin.append_ #[t, u] ty #[.slice none 0 0, .string s]).run P w = .ok (.slice none 0 0) w := by
        simp [Builtin.append_, run_underlying ht, run_underlying hu, sizeOf, typeInfo, hi, hsize, Builtin.lenOf, hm, hf]
      rw [this] at hr1
      rw [hinj hr1]
      exact .inl rfl
    · have hr := run_append_nil_string (P := P) w t u ty e i (.int .u8 0) ht hu hi hz s (by omega) (by omega) (by rw [hby]; omega)
      rw [hr] at hr1
      rw [hinj hr1]
      exact .inr ⟨_, rfl, Nat.le_refl _⟩
  · by_cases hroom : n + s.size ≤ cap
    · have hcs' : cur.size = cap := by simpa using hcs
      have hr := Go.Lib.run_append_room_string (P := P) w t u ty e i ht hu hi hsize g n cap cur hg s hroom (by omega)
      rw [hr] at hr1
      rw [hinj hr1]
      exact .inl rfl
    · have holds : ∀ j u, xs[j]? = some u → w.cell? ((⟨g, 0, none⟩ : Addr).add j) = some u := hown.cells (g := g) rfl
      have hr := Go.Lib.run_append_grow_string (P := P) w t u ty e i (.int .u8 0) ht hu hi hz ⟨g, 0, none⟩ n cap xs (by rw [hsize]; simpa using hxl) holds s (by omega) (by omega) (by rw [hby]; exact growslice_fits (by omega) (by omega))
      rw [hr] at hr1
      rw [hinj hr1]
      exact .inr ⟨_, rfl, Nat.le_refl _⟩
/-- print_append_str, and what the row may be is kept. -/
theorem print_append_strM {w0 W : World} (base : Nat) (hgd : o.guard = none) (s x : Operand) (t u e : TypeId)
    (ho : o.op = .call { callee := .builtin .append, args := #[s, x], argTypes := #[t, u] })
    (ht : P.underlying t = some (.slice e)) (hu : P.underlying u = some .string) (hinfo : (P.info? e).map (fun i => (i.zero, i.size, i.bytes)) = some (some (.int .u8 0), 1, 1))
    (v : Value) (xs : List Int) (y : ByteArray) (ok : Nat → Prop) (hs : a.eval s = v) (hx : a.eval x = .string y)
    (HO : (Kd.int .u8).R e W base ok v xs) (hfresh : ∀ k, W.heap.size ≤ k → ok k) (HB : Below base w0 W) (hbase : base ≤ W.heap.size) (hl : xs.length + y.size ≤ 140737488355328)
    (h : ∀ v1 w1, (Kd.int .u8).R e w1 base ok v1 (xs ++ bytesOf y) → Below base w0 w1 → W.grownBy w1 v.ownBlock → wpList P ops Q rest (a.put o.dst v1) w1) :
    wpList P ops Q (o :: rest) a W := by
  obtain ⟨i0, hi, hzz⟩ := Option.map_eq_some_iff.1 hinfo
  simp only [Prod.mk.injEq] at hzz
  obtain ⟨hz0, hz1, hz2⟩ := hzz
  refine wpList_plain hgd fun K hK => ?_
  have HO2 := Kd.own_of_R HO
  have hmx : xs.length + y.size ≤ maxLen := by simp only [maxLen]; omega
  obtain ⟨v1, w1, hr, h2, h3, _⟩ := Go.Lib.run_append_own_string (P := P) W base t u o.type e i0 ht hu hi hz0 hz1 hz2 v xs.length _ HO2 y hmx hl hbase
  have h5 := hp_str_block ht hu hi hz0 hz1 hz2 HO2 y hmx hl hr
  unfold Oper.wp execOp
  simp only [ho, resolve, invoke, builtin, Sem.run_bind, Sem.run_pure, Result.andThen_ok, List.map_toArray, List.map_cons, List.map_nil, hs, hx, hr]
  have hl2 : (xs ++ bytesOf y).length = xs.length + y.size := by rw [List.length_append, bytesOf_length]
  have hc : encs (Value.int .u8) (xs ++ bytesOf y) = encs (Value.int .u8) xs ++ Go.Lib.strCells y := by
    simp [encs, bytesOf, Go.Lib.strCells]
  refine hK _ _ (h v1 w1 (Kd.R_of_own (h1 := fun _ => rfl) (ok := ok) (by rw [hl2, hc]; exact h2) (fun k hk => ?_)) (HB.grown h3 hbase (own_base HO2)) h3)
  rcases h5 with e1 | ⟨b, e1, e2⟩
  · exact HO.1 k (by rw [← e1]; exact hk)
  · rw [hk] at e1
    injection e1 with e1
    rw [e1]
    exact hfresh b e2
end
theorem hp_kept_new {w W W2 : World} {S : Nat → Prop} {g : Nat} (h : Kept w W S) (k : KeepBut W W2 g none) (hg : w.heap.size ≤ g) : Kept w W2 S := ⟨Nat.le_trans h.1 k.1, fun i hi hn => (k.2 i (Nat.lt_of_lt_of_le hi h.1) (by omega) (by simp)).trans (h.2 i hi hn)⟩
theorem hp_nil (l : List UInt8) : (l == []) = l.isEmpty := by cases l <;> rfl
/-- What haulage/sum.halves holds. -/
def G0 : List Int := [0, 274646895, 549293790, 820201905, 1098587580, 1361435347, 1640403810, 1905808397, 2197175160, 2460548119, 2722870694, 2987750089, 3280807620, 3553878443, 3811616794, 4084100981]
/-- The package-level tables hold what the program's text lays in them. -/
structure Glob (w : World) : Prop where
  at0 : Kd.C (Kd.int .u32) w (some ⟨0, 0, none⟩) 16 G0
theorem Glob.below {w w1 : World} (h : Glob w) (hb : Below w.heap.size w w1) : Glob w1 := ⟨Kd.C_below h.at0 hb⟩
theorem Glob.alloc {w : World} (h : Glob w) (o : Obj) : Glob (w.alloc o) := ⟨Kd.C_alloc h.at0 o⟩
theorem Glob.drew {w : World} (h : Glob w) : Glob w.drew := ⟨Kd.C_drew h.at0⟩
theorem Glob.drewN {w : World} (h : Glob w) (n : Nat) : Glob (w.drewN n) := ⟨Kd.C_drewN h.at0 n⟩
end Go.Proofs.YtapjhgenjghfbaaDoor.HSumTells

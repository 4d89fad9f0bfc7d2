/- The statement's row for WalrecBytes: for every input that can be read the law returns true and leaves its arguments as they were; no condition but that the listed package-level tables hold what the program's text lays in them, which the card ties. -/
import Derived.Test.YtjkjpjbohiggaabDoorRows
import Derived.Test.YtjkjpjbohiggaabDoorHWalrecBytesx9
import Derived.Test.YtjkjpjbohiggaabDoorPureWalrecBytes
import Derived.Test.YtjkjpjbohiggaabDoorCards
import Derived.Test.YtjkjpjbohiggaabDoorTie
import Derived.WalkKit
import Derived.ProofKit
import Derived.OpenShut
import Derived.ShutString
import Derived.ChangeOld
import Derived.Below
import Derived.SizedLaws
import Derived.Test.YtjkjpjbohiggaabDoorWSized
import Derived.LaidMore
import Derived.Stop.Joined
import Derived.SevenTiedAt
namespace Go.Proofs.YtjkjpjbohiggaabDoor.walrecBytes
open Go.ChangeShapes Go.WideShapes Go.ChangeAt Go.RowKit
open Go.ChangeMaps (open_string shut_string)
set_option linter.unusedVariables false
set_option linter.unusedSimpArgs false
theorem own : ownKnob Tryd.prog.godebug = none := by kernel_rfl
theorem laidOut : laidOutB Tryd.prog = true := by kernel_rfl
theorem lst4 {α : Type} {l : List α} (h : l.length = 4) : ∃ a0 a1 a2 a3, l = [a0, a1, a2, a3] := by
  match l, h with
  | [a0, a1, a2, a3], _ => exact ⟨a0, a1, a2, a3, rfl⟩
theorem arr4 {α : Type} {c : Array α} (h : c.size = 4) : ∃ a0 a1 a2 a3, c = #[a0, a1, a2, a3] := by
  obtain ⟨a0, a1, a2, a3, e⟩ := lst4 (l := c.toList) (by rw [Array.length_toList]; exact h)
  exact ⟨a0, a1, a2, a3, Array.toList_inj.1 e⟩
noncomputable abbrev laidL : List (String × DataW Unit) := [("haulage/walrec.words", Rows.laid_haulage_walrec_words)]
abbrev steps : Nat := 19
theorem door_met (os : Os) (args : Array Value) : laidMetH Tryd.prog laidL ((World.doorLaid Tryd.prog steps os).forCall (fun _ _ => 0) ⟨#[], args, []⟩).memory :=
  laidMetH_of_parts3 (fuel := 8) (laidMet_of_run' 8 (by kernel_rfl) (by kernel_rfl)) (by kernel_rfl) (by kernel_rfl)
/-- A table, out of the condition. -/
theorem tab_strs {W : World} {nm : String} {g t e : Nat} {n : Nat} {zs : List ByteArray} {cs : Array Value} {fuel : Nat} {p : List MemPlace} (hg : Tryd.prog.globalNamed nm = some g) (hu : Tryd.prog.underlying t = some (.array n e)) (he : Tryd.prog.underlying e = some .string) (hc : Tryd.prog.cellsOf e = 1) (hn : zs.length = n) (hm : n ≤ 9223372036854775807) (hv : W.var? Tryd.prog nm = some cs)
    (hd : DataW.trod (fun _ => ()) Tryd.prog W 0 (fun _ => true) false fuel t cs.toList = some (.agg (zs.map fun z => .lit (.string z.data.toList)), p)) : (Go.Proofs.YtjkjpjbohiggaabDoorW.PrintWords.Kd.string).C W (some ⟨g, 0, none⟩) n zs := by
  obtain ⟨xs, m, _, hx, hl, hxn, hel⟩ := DataW.trod_array hu hd
  refine Go.Proofs.YtjkjpjbohiggaabDoorW.PrintWords.Kd.C_of_reads (enc := Value.string) (d := ByteArray.empty) (h1 := fun _ => rfl) ⟨hn, hm, fun _ => ⟨_, rfl, fun j hj => ?_⟩⟩
  have h1 := hel j hj
  rw [hc, Nat.mul_one] at h1
  have hxj : j < xs.length := by omega
  rw [List.getElem?_eq_getElem hxj] at h1
  have hcl : j < cs.toList.length := by
    rcases Nat.lt_or_ge j cs.toList.length with h | h
    · exact h
    · rw [List.drop_eq_nil_of_le h] at h1
      obtain ⟨_, e1, _⟩ := DataW.trod_string he h1
      simp at e1
  rw [show (cs.toList.drop j).take 1 = [cs.toList[j]] by rw [List.drop_eq_getElem_cons hcl]; rfl] at h1
  obtain ⟨z, e1, e2, _⟩ := DataW.trod_string he h1
  have e3 : zs.map (fun z => (.lit (.string z.data.toList) : DataW Unit)) = xs.map (·.1) := by have := congrArg Prod.fst hx; simpa using this
  have e4 := congrArg (fun l => l[j]?) e3
  simp only [List.getElem?_map] at e4
  rw [List.getElem?_eq_getElem hxj, List.getElem?_eq_getElem (show j < zs.length by omega)] at e4
  simp only [Option.map_some, Option.some.injEq] at e4
  rw [e2] at e4
  have e6 := World.var?_cell hg hv j
  rw [add_plain, Nat.zero_add, e6, ← Array.getElem?_toList, List.getElem?_eq_getElem hcl]
  have e7 : cs.toList[j] = .string z := by injection e1
  rw [e7]
  have e8 : zs.getD j ByteArray.empty = zs[j] := by simp [List.getD, List.getElem?_eq_getElem (show j < zs.length by omega)]
  rw [e8]
  have e5 : zs[j] = z := by injection e4 with e4; injection e4 with e4; exact ByteArray.ext (Array.toList_inj.1 e4)
  rw [e5]
theorem glob_of {W : World} (h : laidMetH Tryd.prog laidL W) : HWalrecBytes.Glob W := by
  rw [MakeChecks.laidMetH_plain _ _ _ (by kernel_rfl)] at h
  obtain ⟨ps, ⟨g0, t0, cs0, f0, p0, q0, hg0, ht0, hv0, hd0, _, _⟩, _⟩ := h
  obtain rfl := Option.some.inj ((show Tryd.prog.globalNamed "haulage/walrec.words" = some 0 by kernel_rfl).symm.trans hg0)
  obtain rfl := Option.some.inj ((show (Tryd.prog.globals[0]?).map (·.type) = some 74 by kernel_rfl).symm.trans ht0)
  exact ⟨tab_strs (nm := "haulage/walrec.words") hg0 Tryd.underlying74 Tryd.underlying9 (by kernel_rfl) rfl (by decide) hv0 hd0⟩
set_option maxRecDepth 100000 in
set_option maxHeartbeats 1000000 in
theorem lifted (os : Os) (started : os.Started) (H : Type) (enc : TypeId × Value → H) :
    ReturnsInHanded {} Tryd.checked os 4 .any (fun w args => (Rows.walrecBytesSpec.pre enc Tryd.prog Tryd.f4 [] false w args ∧ laidMetH Tryd.prog laidL w) ∧ sizedMet enc Tryd.prog Tryd.f4 (OpenSpec.ofChange Rows.walrecBytesSpec) false w args) (Rows.walrecBytesSpec.post enc Tryd.prog Tryd.f4 false true false false) := by
  refine returnsInHanded_of_change_and (C := Tryd.checked) (X := (fun w _ => laidMetH Tryd.prog laidL w)) (fun _ _ _ hh h => h.of_heap hh) own started (by kernel_rfl) Tryd.func4
    (ChangeSpec.witness_shaped (enc := enc) (C := Tryd.checked) (os := os) (X := (fun w _ => laidMetH Tryd.prog laidL w)) false (World.doorLaid Tryd.prog steps os) #[.agg #[.int .i64 0, .int .i64 0, .int .i64 0, .string ByteArray.empty], .string ByteArray.empty] 8 rfl (World.shaped_of_RefB (by kernel_rfl) (by kernel_rfl)) (by kernel_rfl) (by kernel_rfl) (by kernel_rfl) (door_met os _)) ?_
  intro W base args ds gs before hval0 hW hcnd hsz0 hL _
  have hsz : (DataW.weightsEach Tryd.prog (Tryd.f4.params.toList ++ Rows.walrecBytesSpec.plain.varTypes Tryd.prog) (ds ++ gs)).all (· ≤ reachBytes) = true := hsz0
  have hval : ∀ (j : Nat) t v, Tryd.f4.params[j]? = some t → args[j]? = some v → Value.okWide Tryd.prog W .any base t v := hval0
  have hW' := hW
  obtain ⟨p, q, hA0, hV, rfl, hfz, hnd⟩ := hW
  have hA : DataW.TrodAll enc Tryd.prog W 0 (fun _ => true) true Tryd.f4.params.toList args.toList ds p := hA0
  rw [Tryd.params4] at hA hval hsz
  have hG := glob_of hL
  obtain ⟨v0, vs0, d0, ds0, p0, q0, hargs, rfl, rfl, h0, r0⟩ := trodAll_cons hA
  obtain ⟨v1, vs1, d1, ds1, p1, q1, rfl, rfl, rfl, h1, r1⟩ := trodAll_cons r0
  obtain ⟨rfl, rfl, rfl⟩ := trodAll_nil r1
  obtain rfl : args = #[v0, v1] := by cases args; simp_all
  obtain ⟨rfl, rfl⟩ := trodVars_none hV
  obtain ⟨cs0, rfl, sz0⟩ := okWide_struct Tryd.underlying36 (hval 0 36 v0 rfl rfl)
  have k0 := h0
  have lt0 : ∀ x ∈ p0, x.block < W.heap.size := by obtain ⟨m, hm⟩ := k0; exact DataW.trod_lt m _ _ _ hm
  obtain ⟨fu0, hf0⟩ := h0
  replace sz0 : cs0.size = 4 := sz0.trans (by kernel_rfl)
  obtain ⟨c0_0, c0_1, c0_2, c0_3, rfl⟩ := arr4 sz0
  rw [show (Value.agg #[c0_0, c0_1, c0_2, c0_3]).cells.toList = [c0_0, c0_1, c0_2, c0_3] from rfl] at hf0
  obtain ⟨xs0, n0, _, e0, _, hn0, hx0⟩ := DataW.trod_struct Tryd.underlying36 hf0
  obtain ⟨y0_0, y0_1, y0_2, y0_3, rfl⟩ := lst4 hn0
  have g0_0 : DataW.trod enc Tryd.prog W 0 (fun _ => true) true n0 3 [c0_0] = some y0_0 := by
    have h_ : DataW.trod enc Tryd.prog W 0 (fun _ => true) true n0 3 (List.take (Tryd.prog.cellsOf 3) (List.drop 0 [c0_0, c0_1, c0_2, c0_3])) = [y0_0, y0_1, y0_2, y0_3][0]? := hx0 0 _ rfl
    rw [show Tryd.prog.cellsOf 3 = 1 by kernel_rfl] at h_
    simp only [List.drop_zero, List.drop_succ_cons, List.take_succ_cons, List.take_zero, List.getElem?_cons_zero, List.getElem?_cons_succ] at h_
    exact h_
  have g0_1 : DataW.trod enc Tryd.prog W 0 (fun _ => true) true n0 3 [c0_1] = some y0_1 := by
    have h_ : DataW.trod enc Tryd.prog W 0 (fun _ => true) true n0 3 (List.take (Tryd.prog.cellsOf 3) (List.drop 1 [c0_0, c0_1, c0_2, c0_3])) = [y0_0, y0_1, y0_2, y0_3][1]? := hx0 1 _ rfl
    rw [show Tryd.prog.cellsOf 3 = 1 by kernel_rfl] at h_
    simp only [List.drop_zero, List.drop_succ_cons, List.take_succ_cons, List.take_zero, List.getElem?_cons_zero, List.getElem?_cons_succ] at h_
    exact h_
  have g0_2 : DataW.trod enc Tryd.prog W 0 (fun _ => true) true n0 3 [c0_2] = some y0_2 := by
    have h_ : DataW.trod enc Tryd.prog W 0 (fun _ => true) true n0 3 (List.take (Tryd.prog.cellsOf 3) (List.drop 2 [c0_0, c0_1, c0_2, c0_3])) = [y0_0, y0_1, y0_2, y0_3][2]? := hx0 2 _ rfl
    rw [show Tryd.prog.cellsOf 3 = 1 by kernel_rfl] at h_
    simp only [List.drop_zero, List.drop_succ_cons, List.take_succ_cons, List.take_zero, List.getElem?_cons_zero, List.getElem?_cons_succ] at h_
    exact h_
  have g0_3 : DataW.trod enc Tryd.prog W 0 (fun _ => true) true n0 9 [c0_3] = some y0_3 := by
    have h_ : DataW.trod enc Tryd.prog W 0 (fun _ => true) true n0 9 (List.take (Tryd.prog.cellsOf 9) (List.drop 3 [c0_0, c0_1, c0_2, c0_3])) = [y0_0, y0_1, y0_2, y0_3][3]? := hx0 3 _ rfl
    rw [show Tryd.prog.cellsOf 9 = 1 by kernel_rfl] at h_
    simp only [List.drop_zero, List.drop_succ_cons, List.take_succ_cons, List.take_zero, List.getElem?_cons_zero, List.getElem?_cons_succ] at h_
    exact h_
  obtain ⟨a0_0, hc_, hy_, w_a0_0⟩ := DataW.trod_int Tryd.underlying3 g0_0
  obtain rfl : c0_0 = .int .i64 a0_0 := by injection hc_
  clear hc_ hy_
  obtain ⟨a0_1, hc_, hy_, w_a0_1⟩ := DataW.trod_int Tryd.underlying3 g0_1
  obtain rfl : c0_1 = .int .i64 a0_1 := by injection hc_
  clear hc_ hy_
  obtain ⟨a0_2, hc_, hy_, w_a0_2⟩ := DataW.trod_int Tryd.underlying3 g0_2
  obtain rfl : c0_2 = .int .i64 a0_2 := by injection hc_
  clear hc_ hy_
  obtain ⟨a0_3, hc_, hy_, w_a0_3⟩ := DataW.trod_string Tryd.underlying9 g0_3
  obtain rfl : c0_3 = .string a0_3 := by injection hc_
  clear hc_ hy_
  obtain ⟨a1, rfl, rfl, rfl, y1⟩ := open_string Tryd.underlying9 (hval 1 9 v1 rfl rfl) h1
  have w1 : a1.size ≤ 140737488351232 := by
    have z := sized_string hsz (j := 1) (t := 9) rfl rfl
    rw [Array.length_toList] at z
    exact z
  clear hA0 hval0 hsz0 hsz
  obtain ⟨k, hk⟩ := Pure.haulagelaw18_WalrecBytes a0_0 a0_1 a0_2 a0_3 a1 w_a0_0 w_a0_1 w_a0_2 w_a0_3 w1
  refine (HWalrecBytes.haulagelaw18_WalrecBytes.calls (w := W) (hG := hG) (h := hk)).mono fun e W' ⟨he, bel0⟩ => ?_
  have bel : Below W.heap.size W W' := by first | exact bel0 | exact bel0.below
  subst he
  exact ⟨_, rfl, _, _, _, [], _, [], hW', trodAll_mk1 (shut_bool Tryd.underlying4 _), (trodAll_cons_mk (Below.trod laidOut (by kernel_rfl) (of_decide_eq_true (by kernel_rfl)) k0 bel lt0) (trodAll_cons_mk (shut_string Tryd.underlying9 y1) trodAll_mk0)), rfl, bel.frame _, fun h => by cases h⟩
theorem over : Rows.walrecBytesRow.holds Tryd.pinned (OpenSpec.ofChange Rows.walrecBytesSpec) :=
  OpenClaim.holds_of_wide 4 Tryd.f4 rfl rfl rfl rfl rfl rfl rfl ⟨rfl, rfl, rfl, rfl, rfl⟩ rfl rfl rfl rfl rfl (by kernel_rfl) Tryd.func4 (by kernel_rfl)
    (of_decide_eq_true (by kernel_rfl)) (by unfold Func.isWrapper; first | (rw [if_pos (by decide +kernel)]; kernel_rfl) | (rw [if_neg (by decide +kernel)]; exact ⟨rfl, rfl⟩))
    (fun os started H enc _ => lifted os started H enc)
theorem card : Rows.WalrecBytesCardSaid :=
  Claim7.holds_tied_plain_at .later [] [.data] true (true, "800d839767b361816701ef21c98fd074f7459ff90fa51da34a8b6cd0bd4a8b81") false
    over (fun _ h => by cases h) (by kernel_rfl) (fun _ h => by cases h) walrecBytes_row_tie rfl ⟨rfl, rfl⟩ (by kernel_rfl) rfl
    (fun f fn hf hfn => by
      obtain rfl : f = 4 := Option.some.inj ((show Tryd.prog.funcNamed "haulage/haulagelaw18.WalrecBytes" = some 4 by kernel_rfl).symm.trans hf) |>.symm
      obtain rfl : fn = Tryd.f4 := (Option.some.inj (Tryd.func4.symm.trans hfn)).symm
      exact ⟨by kernel_rfl, fun j t ht => by
        rw [Tryd.params4] at ht
        have hm : t ∈ [36, 9] := by simpa using Array.mem_of_getElem? ht
        have hall : ([36, 9].all fun u => !Tryd.prog.wantsStandIn u) = true := by kernel_rfl
        exact (show Tryd.prog.wantsStandIn t = false by simpa using List.all_eq_true.1 hall t hm)⟩)
    (by kernel_rfl)
theorem proved : Rows.WalrecBytesCardSaid := card
#print axioms proved
end Go.Proofs.YtjkjpjbohiggaabDoor.walrecBytes
namespace Go.Proofs.YtjkjpjbohiggaabDoor
/-- The statement, under a short name, for the claim. -/
theorem walrecBytes_holds : Rows.WalrecBytesCardSaid := walrecBytes.proved
end Go.Proofs.YtjkjpjbohiggaabDoor

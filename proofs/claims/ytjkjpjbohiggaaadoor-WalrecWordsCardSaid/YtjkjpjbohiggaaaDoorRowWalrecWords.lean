/- The statement's row for WalrecWords: for every input that can be read the law returns true and leaves its arguments as they were; no condition but that the listed package-level tables hold what the program's text lays in them, which the card ties. -/
import Derived.Test.YtjkjpjbohiggaaaDoorRows
import Derived.Test.YtjkjpjbohiggaaaDoorHWalrecWordsx2
import Derived.Test.YtjkjpjbohiggaaaDoorPureWalrecWords
import Derived.Test.YtjkjpjbohiggaaaDoorCards
import Derived.Test.YtjkjpjbohiggaaaDoorTie
import Derived.WalkKit
import Derived.ProofKit
import Derived.OpenShut
import Derived.ShutString
import Derived.ChangeOld
import Derived.Below
import Derived.SizedLaws
import Derived.Test.YtjkjpjbohiggaaaDoorWSized
import Derived.LaidMore
import Derived.Stop.Joined
import Derived.SevenTiedAt
namespace Go.Proofs.YtjkjpjbohiggaaaDoor.walrecWords
open Go.ChangeShapes Go.WideShapes Go.ChangeAt Go.RowKit
open Go.ChangeMaps (open_string shut_string)
set_option linter.unusedVariables false
set_option linter.unusedSimpArgs false
theorem own : ownKnob Tryd.prog.godebug = none := by kernel_rfl
theorem laidOut : laidOutB Tryd.prog = true := by kernel_rfl
noncomputable abbrev laidL : List (String × DataW Unit) := [("haulage/walrec.words", Rows.laid_haulage_walrec_words)]
abbrev steps : Nat := 19
theorem door_met (os : Os) (args : Array Value) : laidMetH Tryd.prog laidL ((World.doorLaid Tryd.prog steps os).forCall (fun _ _ => 0) ⟨#[], args, []⟩).memory :=
  laidMetH_of_parts3 (fuel := 8) (laidMet_of_run' 8 (by kernel_rfl) (by kernel_rfl)) (by kernel_rfl) (by kernel_rfl)
/-- A table, out of the condition. -/
theorem tab_strs {W : World} {nm : String} {g t e : Nat} {n : Nat} {zs : List ByteArray} {cs : Array Value} {fuel : Nat} {p : List MemPlace} (hg : Tryd.prog.globalNamed nm = some g) (hu : Tryd.prog.underlying t = some (.array n e)) (he : Tryd.prog.underlying e = some .string) (hc : Tryd.prog.cellsOf e = 1) (hn : zs.length = n) (hm : n ≤ 9223372036854775807) (hv : W.var? Tryd.prog nm = some cs)
    (hd : DataW.trod (fun _ => ()) Tryd.prog W 0 (fun _ => true) false fuel t cs.toList = some (.agg (zs.map fun z => .lit (.string z.data.toList)), p)) : (Go.Proofs.YtjkjpjbohiggaaaDoorW.PrintWords.Kd.string).C W (some ⟨g, 0, none⟩) n zs := by
  obtain ⟨xs, m, _, hx, hl, hxn, hel⟩ := DataW.trod_array hu hd
  refine Go.Proofs.YtjkjpjbohiggaaaDoorW.PrintWords.Kd.C_of_reads (enc := Value.string) (d := ByteArray.empty) (h1 := fun _ => rfl) ⟨hn, hm, fun _ => ⟨_, rfl, fun j hj => ?_⟩⟩
  have h1 := hel j hj
  rw [hc, Nat.mul_one] at h1
  have hxj : j < xs.length := by omega
  rw [List.getElem?_eq_getElem hxj] at h1
  have hcl : j < cs.toList.length := by
    rcases Nat.lt_or_ge j cs.toList.length with h | h
    · exact h
    · rw [List.drop_eq_nil_of_le h] at h1
      obtain ⟨_, e1, _⟩ := DataW.trod_string he h1
      simp at e1
  rw [show (cs.toList.drop j).take 1 = [cs.toList[j]] by rw [List.drop_eq_getElem_cons hcl]; rfl] at h1
  obtain ⟨z, e1, e2, _⟩ := DataW.trod_string he h1
  have e3 : zs.map (fun z => (.lit (.string z.data.toList) : DataW Unit)) = xs.map (·.1) := by have := congrArg Prod.fst hx; simpa using this
  have e4 := congrArg (fun l => l[j]?) e3
  simp only [List.getElem?_map] at e4
  rw [List.getElem?_eq_getElem hxj, List.getElem?_eq_getElem (show j < zs.length by omega)] at e4
  simp only [Option.map_some, Option.some.injEq] at e4
  rw [e2] at e4
  have e6 := World.var?_cell hg hv j
  rw [add_plain, Nat.zero_add, e6, ← Array.getElem?_toList, List.getElem?_eq_getElem hcl]
  have e7 : cs.toList[j] = .string z := by injection e1
  rw [e7]
  have e8 : zs.getD j ByteArray.empty = zs[j] := by simp [List.getD, List.getElem?_eq_getElem (show j < zs.length by omega)]
  rw [e8]
  have e5 : zs[j] = z := by injection e4 with e4; injection e4 with e4; exact ByteArray.ext (Array.toList_inj.1 e4)
  rw [e5]
theorem glob_of {W : World} (h : laidMetH Tryd.prog laidL W) : HWalrecWords.Glob W := by
  rw [MakeChecks.laidMetH_plain _ _ _ (by kernel_rfl)] at h
  obtain ⟨ps, ⟨g0, t0, cs0, f0, p0, q0, hg0, ht0, hv0, hd0, _, _⟩, _⟩ := h
  obtain rfl := Option.some.inj ((show Tryd.prog.globalNamed "haulage/walrec.words" = some 1 by kernel_rfl).symm.trans hg0)
  obtain rfl := Option.some.inj ((show (Tryd.prog.globals[1]?).map (·.type) = some 53 by kernel_rfl).symm.trans ht0)
  exact ⟨tab_strs (nm := "haulage/walrec.words") hg0 Tryd.underlying53 Tryd.underlying9 (by kernel_rfl) rfl (by decide) hv0 hd0⟩
set_option maxRecDepth 100000 in
theorem lifted (os : Os) (started : os.Started) (H : Type) (enc : TypeId × Value → H) :
    ReturnsInHanded {} Tryd.checked os 8 .any (fun w args => (Rows.walrecWordsSpec.pre enc Tryd.prog Tryd.f8 [] false w args ∧ laidMetH Tryd.prog laidL w) ∧ sizedMet enc Tryd.prog Tryd.f8 (OpenSpec.ofChange Rows.walrecWordsSpec) false w args) (Rows.walrecWordsSpec.post enc Tryd.prog Tryd.f8 false true false false) := by
  refine returnsInHanded_of_change_and (C := Tryd.checked) (X := (fun w _ => laidMetH Tryd.prog laidL w)) (fun _ _ _ hh h => h.of_heap hh) own started (by kernel_rfl) Tryd.func8
    (ChangeSpec.witness_shaped (enc := enc) (C := Tryd.checked) (os := os) (X := (fun w _ => laidMetH Tryd.prog laidL w)) false (World.doorLaid Tryd.prog steps os) #[.int .i64 0, .int .i64 0] 8 rfl (World.shaped_of_RefB (by kernel_rfl) (by kernel_rfl)) (by kernel_rfl) (by kernel_rfl) (by kernel_rfl) (door_met os _)) ?_
  intro W base args ds gs before hval0 hW hcnd hsz0 hL _
  have hsz : (DataW.weightsEach Tryd.prog (Tryd.f8.params.toList ++ Rows.walrecWordsSpec.plain.varTypes Tryd.prog) (ds ++ gs)).all (· ≤ reachBytes) = true := hsz0
  have hval : ∀ (j : Nat) t v, Tryd.f8.params[j]? = some t → args[j]? = some v → Value.okWide Tryd.prog W .any base t v := hval0
  have hW' := hW
  obtain ⟨p, q, hA0, hV, rfl, hfz, hnd⟩ := hW
  have hA : DataW.TrodAll enc Tryd.prog W 0 (fun _ => true) true Tryd.f8.params.toList args.toList ds p := hA0
  rw [Tryd.params8] at hA hval hsz
  have hG := glob_of hL
  obtain ⟨v0, vs0, d0, ds0, p0, q0, hargs, rfl, rfl, h0, r0⟩ := trodAll_cons hA
  obtain ⟨v1, vs1, d1, ds1, p1, q1, rfl, rfl, rfl, h1, r1⟩ := trodAll_cons r0
  obtain ⟨rfl, rfl, rfl⟩ := trodAll_nil r1
  obtain rfl : args = #[v0, v1] := by cases args; simp_all
  obtain ⟨rfl, rfl⟩ := trodVars_none hV
  obtain ⟨a0, rfl, rfl, rfl, w0⟩ := open_int Tryd.underlying3 (hval 0 3 v0 rfl rfl) h0
  obtain ⟨a1, rfl, rfl, rfl, w1⟩ := open_int Tryd.underlying3 (hval 1 3 v1 rfl rfl) h1
  clear hA0 hval0 hsz0 hsz
  refine (HWalrecWords.haulagelaw18_WalrecWords.walk Pure.WalrecWords a0 a1 W w0 w1 hG).mono fun e W' ⟨he, bel⟩ => ?_
  subst he
  exact ⟨_, rfl, _, _, _, [], _, [], hW', trodAll_mk1 (shut_bool Tryd.underlying4 _), (trodAll_cons_mk (shut_int Tryd.underlying3 w0) (trodAll_cons_mk (shut_int Tryd.underlying3 w1) trodAll_mk0)), rfl, bel.frame _, fun h => by cases h⟩
theorem over : Rows.walrecWordsRow.holds Tryd.pinned (OpenSpec.ofChange Rows.walrecWordsSpec) :=
  OpenClaim.holds_of_wide 8 Tryd.f8 rfl rfl rfl rfl rfl rfl rfl ⟨rfl, rfl, rfl, rfl, rfl⟩ rfl rfl rfl rfl rfl (by kernel_rfl) Tryd.func8 (by kernel_rfl)
    (of_decide_eq_true (by kernel_rfl)) (by unfold Func.isWrapper; first | (rw [if_pos (by decide +kernel)]; kernel_rfl) | (rw [if_neg (by decide +kernel)]; exact ⟨rfl, rfl⟩))
    (fun os started H enc _ => lifted os started H enc)
theorem card : Rows.WalrecWordsCardSaid :=
  Claim7.holds_tied_plain_at .later [] [.data] true (true, "a6d5ec5f99a64bc37aa53c313fda17e39d81f2bbdea9e1df55cecd86013fa15f") false
    over (fun _ h => by cases h) (by kernel_rfl) (fun _ h => by cases h) walrecWords_row_tie rfl ⟨rfl, rfl⟩ (by kernel_rfl) rfl
    (fun f fn hf hfn => by
      obtain rfl : f = 8 := Option.some.inj ((show Tryd.prog.funcNamed "haulage/haulagelaw18.WalrecWords" = some 8 by kernel_rfl).symm.trans hf) |>.symm
      obtain rfl : fn = Tryd.f8 := (Option.some.inj (Tryd.func8.symm.trans hfn)).symm
      exact ⟨by kernel_rfl, fun j t ht => by
        rw [Tryd.params8] at ht
        have hm : t ∈ [3, 3] := by simpa using Array.mem_of_getElem? ht
        have hall : ([3, 3].all fun u => !Tryd.prog.wantsStandIn u) = true := by kernel_rfl
        exact (show Tryd.prog.wantsStandIn t = false by simpa using List.all_eq_true.1 hall t hm)⟩)
    (by kernel_rfl)
theorem proved : Rows.WalrecWordsCardSaid := card
#print axioms proved
end Go.Proofs.YtjkjpjbohiggaaaDoor.walrecWords
namespace Go.Proofs.YtjkjpjbohiggaaaDoor
/-- The statement, under a short name, for the claim. -/
theorem walrecWords_holds : Rows.WalrecWordsCardSaid := walrecWords.proved
end Go.Proofs.YtjkjpjbohiggaaaDoor

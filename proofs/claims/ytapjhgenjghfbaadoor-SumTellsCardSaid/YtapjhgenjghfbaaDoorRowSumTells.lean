/- The statement's row for SumTells: for every input that can be read the law returns true and leaves its arguments as they were; no condition but that the listed package-level tables hold what the program's text lays in them, which the card ties. -/
import Derived.Test.YtapjhgenjghfbaaDoorRows
import Derived.Test.YtapjhgenjghfbaaDoorHSumTellsx3
import Derived.Test.YtapjhgenjghfbaaDoorPureSumTells
import Derived.Test.YtapjhgenjghfbaaDoorCards
import Derived.Test.YtapjhgenjghfbaaDoorTie
import Derived.Test.YtapjhgenjghfbaaDoorOpenSumTells
import Derived.WalkKit
import Derived.ProofKit
import Derived.OpenShut
import Derived.ShutString
import Derived.ChangeOld
import Derived.Below
import Derived.SizedLaws
import Derived.Test.YtapjhgenjghfbaaDoorWSized
import Derived.LaidMore
import Derived.Stop.Joined
import Derived.SevenTiedAt
namespace Go.Proofs.YtapjhgenjghfbaaDoor.sumTells
open Go.ChangeShapes Go.WideShapes Go.ChangeAt Go.RowKit
open Go.ChangeMaps (open_string shut_string)
open HSumTells
set_option linter.unusedVariables false
set_option linter.unusedSimpArgs false
theorem okWide_array {P : Program} {w : World} {r : Reach} {base : Nat} {t : TypeId} {v : Value} {n : Nat} {e : TypeId} (ht : P.underlying t = some (.array n e)) (h : Value.okWide P w r base t v) : ∃ cs, v = .agg cs ∧ cs.size = P.cellsOf t := by
  simp only [Value.okWide, ht] at h
  obtain ⟨cs, h1, h2, _⟩ := h
  exact ⟨cs, h1, h2⟩
theorem own : ownKnob Tryd.prog.godebug = none := by kernel_rfl
theorem laidOut : laidOutB Tryd.prog = true := by kernel_rfl
noncomputable abbrev laidL : List (String × DataW Unit) := [("haulage/sum.halves", Rows.laid_haulage_sum_halves)]
abbrev steps : Nat := 14
theorem door_met (os : Os) (args : Array Value) : laidMetH Tryd.prog laidL ((World.doorLaid Tryd.prog steps os).forCall (fun _ _ => 0) ⟨#[], args, []⟩).memory :=
  laidMetH_of_parts3 (fuel := 8) (laidMet_of_run' 8 (by kernel_rfl) (by kernel_rfl)) (by kernel_rfl) (by kernel_rfl)
/-- A table, out of the condition. -/
theorem tab_ints {W : World} {nm : String} {g t e : Nat} {n : Nat} {k : IntKind} {zs : List Int} {cs : Array Value} {fuel : Nat} {p : List MemPlace} (hg : Tryd.prog.globalNamed nm = some g) (hu : Tryd.prog.underlying t = some (.array n e)) (he : Tryd.prog.underlying e = some (.int k)) (hc : Tryd.prog.cellsOf e = 1) (hn : zs.length = n) (hm : n ≤ 9223372036854775807) (hv : W.var? Tryd.prog nm = some cs)
    (hd : DataW.trod (fun _ => ()) Tryd.prog W 0 (fun _ => true) false fuel t cs.toList = some (.agg (zs.map fun z => .lit (.int k z)), p)) : (Go.Proofs.YtapjhgenjghfbaaDoorW.PrintWords.Kd.int k).C W (some ⟨g, 0, none⟩) n zs := by
  obtain ⟨xs, m, _, hx, hl, hxn, hel⟩ := DataW.trod_array hu hd
  refine Go.Proofs.YtapjhgenjghfbaaDoorW.PrintWords.Kd.C_of_reads (enc := Value.int k) (d := (0 : Int)) (h1 := fun _ => rfl) ⟨hn, hm, fun _ => ⟨_, rfl, fun j hj => ?_⟩⟩
  have h1 := hel j hj
  rw [hc, Nat.mul_one] at h1
  have hxj : j < xs.length := by omega
  rw [List.getElem?_eq_getElem hxj] at h1
  have hcl : j < cs.toList.length := by
    rcases Nat.lt_or_ge j cs.toList.length with h | h
    · exact h
    · rw [List.drop_eq_nil_of_le h] at h1
      obtain ⟨_, e1, _⟩ := DataW.trod_int he h1
      simp at e1
  rw [show (cs.toList.drop j).take 1 = [cs.toList[j]] by rw [List.drop_eq_getElem_cons hcl]; rfl] at h1
  obtain ⟨z, e1, e2, _⟩ := DataW.trod_int he h1
  have e3 : zs.map (fun z => (.lit (.int k z) : DataW Unit)) = xs.map (·.1) := by have := congrArg Prod.fst hx; simpa using this
  have e4 := congrArg (fun l => l[j]?) e3
  simp only [List.getElem?_map] at e4
  rw [List.getElem?_eq_getElem hxj, List.getElem?_eq_getElem (show j < zs.length by omega)] at e4
  simp only [Option.map_some, Option.some.injEq] at e4
  rw [e2] at e4
  have e6 := World.var?_cell hg hv j
  rw [add_plain, Nat.zero_add, e6, ← Array.getElem?_toList, List.getElem?_eq_getElem hcl]
  have e7 : cs.toList[j] = .int k z := by injection e1
  rw [e7]
  have e8 : zs.getD j (0 : Int) = zs[j] := by simp [List.getD, List.getElem?_eq_getElem (show j < zs.length by omega)]
  rw [e8]
  have e5 : zs[j] = z := by simp only [DataW.lit.injEq, Lit.int.injEq, true_and] at e4; exact e4
  rw [e5]
theorem glob_of {W : World} (h : laidMetH Tryd.prog laidL W) : HSumTells.Glob W := by
  rw [MakeChecks.laidMetH_plain _ _ _ (by kernel_rfl)] at h
  obtain ⟨ps, ⟨g0, t0, cs0, f0, p0, q0, hg0, ht0, hv0, hd0, _, _⟩, _⟩ := h
  obtain rfl := Option.some.inj ((show Tryd.prog.globalNamed "haulage/sum.halves" = some 0 by kernel_rfl).symm.trans hg0)
  obtain rfl := Option.some.inj ((show (Tryd.prog.globals[0]?).map (·.type) = some 40 by kernel_rfl).symm.trans ht0)
  exact ⟨tab_ints (nm := "haulage/sum.halves") hg0 Tryd.underlying40 Tryd.underlying30 (by kernel_rfl) rfl (by decide) hv0 hd0⟩
set_option maxRecDepth 100000 in
set_option maxHeartbeats 1000000 in
theorem lifted (os : Os) (started : os.Started) (H : Type) (enc : TypeId × Value → H) :
    ReturnsInHanded {} Tryd.checked os 3 .any (fun w args => (Rows.sumTellsSpec.pre enc Tryd.prog Tryd.f3 [] false w args ∧ laidMetH Tryd.prog laidL w) ∧ sizedMet enc Tryd.prog Tryd.f3 (OpenSpec.ofChange Rows.sumTellsSpec) false w args) (Rows.sumTellsSpec.post enc Tryd.prog Tryd.f3 false true false false) := by
  refine returnsInHanded_of_change_and (C := Tryd.checked) (X := (fun w _ => laidMetH Tryd.prog laidL w)) (fun _ _ _ hh h => h.of_heap hh) own started (by kernel_rfl) Tryd.func3
    (ChangeSpec.witness_shaped (enc := enc) (C := Tryd.checked) (os := os) (X := (fun w _ => laidMetH Tryd.prog laidL w)) false (World.doorLaid Tryd.prog steps os) #[.string ByteArray.empty, .int .u16 0, .agg #[.int .u8 0, .int .u8 0, .int .u8 0, .int .u8 0]] 8 rfl (World.shaped_of_RefB (by kernel_rfl) (by kernel_rfl)) (by kernel_rfl) (by kernel_rfl) (by kernel_rfl) (door_met os _)) ?_
  intro W base args ds gs before hval0 hW hcnd hsz0 hL _
  have hsz : (DataW.weightsEach Tryd.prog (Tryd.f3.params.toList ++ Rows.sumTellsSpec.plain.varTypes Tryd.prog) (ds ++ gs)).all (· ≤ reachBytes) = true := hsz0
  have hval : ∀ (j : Nat) t v, Tryd.f3.params[j]? = some t → args[j]? = some v → Value.okWide Tryd.prog W .any base t v := hval0
  have hW' := hW
  obtain ⟨p, q, hA0, hV, rfl, hfz, hnd⟩ := hW
  have hA : DataW.TrodAll enc Tryd.prog W 0 (fun _ => true) true Tryd.f3.params.toList args.toList ds p := hA0
  rw [Tryd.params3] at hA hval hsz
  have hG := glob_of hL
  obtain ⟨v0, vs0, d0, ds0, p0, q0, hargs, rfl, rfl, h0, r0⟩ := trodAll_cons hA
  obtain ⟨v1, vs1, d1, ds1, p1, q1, rfl, rfl, rfl, h1, r1⟩ := trodAll_cons r0
  obtain ⟨v2, vs2, d2, ds2, p2, q2, rfl, rfl, rfl, h2, r2⟩ := trodAll_cons r1
  obtain ⟨rfl, rfl, rfl⟩ := trodAll_nil r2
  obtain rfl : args = #[v0, v1, v2] := by cases args; simp_all
  obtain ⟨rfl, rfl⟩ := trodVars_none hV
  obtain ⟨a0, rfl, rfl, rfl, y0⟩ := open_string Tryd.underlying9 (hval 0 9 v0 rfl rfl) h0
  have w0 : a0.size ≤ 140737488351232 := by
    have z := sized_string hsz (j := 0) (t := 9) rfl rfl
    rw [Array.length_toList] at z
    exact z
  obtain ⟨a1, rfl, rfl, rfl, w1⟩ := open_int Tryd.underlying22 (hval 1 22 v1 rfl rfl) h1
  have k2 := h2
  have lt2 : ∀ x ∈ p2, x.block < W.heap.size := by obtain ⟨m, hm⟩ := k2; exact DataW.trod_lt m _ _ _ hm
  obtain ⟨fu2, hf2⟩ := h2
  obtain ⟨cs2, rfl, sz2⟩ := okWide_array Tryd.underlying23 (hval 2 23 v2 rfl rfl)
  obtain ⟨x2, kx2, ok2⟩ := HSumTells.o23 (show DataW.trod enc Tryd.prog W 0 (fun _ => true) true fu2 23 cs2.toList = _ from hf2)
  have ec2 := HSumTells.k23_open kx2
  obtain rfl : cs2 = #[.int .u8 x2.f0, .int .u8 x2.f1, .int .u8 x2.f2, .int .u8 x2.f3] := Array.toList_inj.1 (ec2.trans rfl)
  clear hf2
  clear hA0 hval0 hsz0 hsz
  obtain ⟨k, hk⟩ := Pure.haulagelaw02_SumTells a0 a1 x2 w0 w1 ok2
  refine (HSumTells.haulagelaw02_SumTells.calls (w := W) (hG := hG) (h := hk)).mono fun e W' ⟨he, bel0⟩ => ?_
  have bel : Below W.heap.size W W' := by first | exact bel0 | exact bel0.below
  subst he
  exact ⟨_, rfl, _, _, _, [], _, [], hW', trodAll_mk1 (shut_bool Tryd.underlying4 _), (trodAll_cons_mk (shut_string Tryd.underlying9 y0) (trodAll_cons_mk (shut_int Tryd.underlying22 w1) (trodAll_cons_mk (Below.trod laidOut (by kernel_rfl) (of_decide_eq_true (by kernel_rfl)) k2 bel lt2) trodAll_mk0))), rfl, bel.frame _, fun h => by cases h⟩
theorem over : Rows.sumTellsRow.holds Tryd.pinned (OpenSpec.ofChange Rows.sumTellsSpec) :=
  OpenClaim.holds_of_wide 3 Tryd.f3 rfl rfl rfl rfl rfl rfl rfl ⟨rfl, rfl, rfl, rfl, rfl⟩ rfl rfl rfl rfl rfl (by kernel_rfl) Tryd.func3 (by kernel_rfl)
    (of_decide_eq_true (by kernel_rfl)) (by unfold Func.isWrapper; first | (rw [if_pos (by decide +kernel)]; kernel_rfl) | (rw [if_neg (by decide +kernel)]; exact ⟨rfl, rfl⟩))
    (fun os started H enc _ => lifted os started H enc)
theorem card : Rows.SumTellsCardSaid :=
  Claim7.holds_tied_plain_at .later [] [.data] true (true, "c088491eb8f9c4653ba1e767cc742b9656e6cc5a1ecf4f894c56c4d98ef1efae") false
    over (fun _ h => by cases h) (by kernel_rfl) (fun _ h => by cases h) sumTells_row_tie rfl ⟨rfl, rfl⟩ (by kernel_rfl) rfl
    (fun f fn hf hfn => by
      obtain rfl : f = 3 := Option.some.inj ((show Tryd.prog.funcNamed "haulage/haulagelaw02.SumTells" = some 3 by kernel_rfl).symm.trans hf) |>.symm
      obtain rfl : fn = Tryd.f3 := (Option.some.inj (Tryd.func3.symm.trans hfn)).symm
      exact ⟨by kernel_rfl, fun j t ht => by
        rw [Tryd.params3] at ht
        have hm : t ∈ [9, 22, 23] := by simpa using Array.mem_of_getElem? ht
        have hall : ([9, 22, 23].all fun u => !Tryd.prog.wantsStandIn u) = true := by kernel_rfl
        exact (show Tryd.prog.wantsStandIn t = false by simpa using List.all_eq_true.1 hall t hm)⟩)
    (by kernel_rfl)
theorem proved : Rows.SumTellsCardSaid := card
#print axioms proved
end Go.Proofs.YtapjhgenjghfbaaDoor.sumTells
namespace Go.Proofs.YtapjhgenjghfbaaDoor
/-- The statement, under a short name, for the claim. -/
theorem sumTells_holds : Rows.SumTellsCardSaid := sumTells.proved
end Go.Proofs.YtapjhgenjghfbaaDoor

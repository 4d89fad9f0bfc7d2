/- Whatever argument can be read at its type is a row, or a struct, as the contracts ask for it. -/
import Derived.Test.YtapjhgenjghfbaaDoorHSumTellsx0
import Derived.ChangeArms
import Derived.DataReads
import Derived.DataElems
import Derived.OpenShut
namespace Go.Proofs.YtapjhgenjghfbaaDoor.HSumTells
open Go.RowKit Go.Proofs.YtapjhgenjghfbaaDoorW.PrintWords
set_option linter.unusedVariables false
set_option maxRecDepth 100000
/-- Whatever can be read at type t is read by the kind d, and what it is read as is ok. -/
def Opens {α : Type} (P : Program) (t : TypeId) (d : Kd α) (ok : α → Prop) : Prop :=
  ∀ {H : Type} {enc : TypeId × Value → H} {W : World} {base : Nat} {sp : Nat → Bool} {held : Bool} {fuel : Nat} {cs : List Value} {y : DataW H × List MemPlace},
    DataW.trod enc P W base sp held fuel t cs = some y → ∃ x, d.K W x cs ∧ ok x
theorem opens_int {P : Program} {t : TypeId} {k : IntKind} (hu : P.underlying t = some (.int k)) : Opens P t (Kd.int k) (fun n => (Lit.int k n).wf = true) := by
  intro H enc W base sp held fuel cs y h
  obtain ⟨n, hc, _, hw⟩ := DataW.trod_int hu h
  exact ⟨n, hc, hw⟩
theorem opens_bool {P : Program} {t : TypeId} (hu : P.underlying t = some .bool) : Opens P t Kd.bool (fun _ => True) := by
  intro H enc W base sp held fuel cs y h
  obtain ⟨n, hc, _⟩ := DataW.trod_bool hu h
  exact ⟨n, hc, trivial⟩
theorem opens_string {P : Program} {t : TypeId} (hu : P.underlying t = some .string) : Opens P t Kd.string (fun s => s.size ≤ maxLen) := by
  intro H enc W base sp held fuel cs y h
  obtain ⟨n, hc, _, hw⟩ := DataW.trod_string hu h
  exact ⟨n, hc, hw⟩
theorem choose_list {α : Type} {Q : Nat → α → Prop} : ∀ n : Nat, (∀ i, i < n → ∃ x, Q i x) → ∃ l : List α, l.length = n ∧ ∀ (i : Nat) (hi : i < l.length), Q i l[i]
  | 0, _ => ⟨[], rfl, fun i hi => by simp at hi⟩
  | n + 1, h => by
    obtain ⟨l, hl, hq⟩ := choose_list n (fun i hi => h i (by omega))
    obtain ⟨x, hx⟩ := h n (by omega)
    refine ⟨l ++ [x], by simp [hl], fun i hi => ?_⟩
    by_cases e : i < l.length
    · rw [List.getElem_append_left e]
      exact hq i e
    · have e1 : i = n := by simp at hi; omega
      subst e1
      rw [List.getElem_append_right (by omega)]
      simpa using hx
theorem cells_at {w : World} {base : Nat} {a : Addr} {n : Nat} {cs : List Value} (h : w.cells? base a n = some cs) : cs.length = n ∧ ∀ i u, cs[i]? = some u → w.cell? (a.add i) = some u := by
  obtain ⟨_, hl, hc⟩ := World.cells?_some h
  exact ⟨hl, fun i u hu => (hc i (by have := (List.getElem?_eq_some_iff.1 hu).1; omega)).trans hu⟩
theorem opens_slice {α : Type} {P : Program} {t e : TypeId} {d : Kd α} {ok : α → Prop} (hu : P.underlying t = some (.slice e)) (hc : P.cellsOf e = d.sz) (ho : Opens P e d ok) :
    Opens P t (Kd.slice e d) (fun l => l.length ≤ maxLen ∧ ∀ x ∈ l, ok x) := by
  intro H enc W base sp held fuel cs y h
  rcases DataW.trod_slice hu h with ⟨rfl, _⟩ | ⟨a, len, cap, elems, rest, n, _, rfl, _, _, hlc, hcm, hel, hat, _⟩
  · exact ⟨[], ⟨none, 0, rfl, Nat.le_refl _, Kd.C_nil _ _⟩, by simp, fun x hx => by simp at hx⟩
  · have hex : ∀ i, i < len → ∃ x : α, (∃ c, c.length = d.sz ∧ d.K W x c ∧ ∀ k u, c[k]? = some u → W.cell? (a.add (i * d.sz + k)) = some u) ∧ ok x := by
      intro i hi
      have h1 := hat i hi
      rw [List.getElem?_eq_getElem (by omega)] at h1
      obtain ⟨c, hc1, hc2⟩ := Option.bind_eq_some_iff.1 h1
      obtain ⟨x, hk, hok⟩ := ho hc2
      obtain ⟨hl, hcell⟩ := cells_at hc1
      rw [hc] at hl hcell
      refine ⟨x, ⟨c, hl, hk, fun k u hu => ?_⟩, hok⟩
      have h2 := hcell k u hu
      rw [Addr.add_add] at h2
      exact h2
    obtain ⟨l, hl, hq⟩ := choose_list len hex
    refine ⟨l, ⟨some a, cap, by rw [hl], by omega, rfl, by rw [hl]; simp only [maxLen] at hcm; omega, fun _ => ⟨a, rfl, fun j p hj => ?_⟩⟩, by omega, fun x hx => ?_⟩
    · obtain ⟨hj1, hj2⟩ := List.getElem?_eq_some_iff.1 hj
      obtain ⟨c, h1, h2, h3⟩ := (hq j hj1).1
      subst hj2
      exact ⟨c, h1, h2, h3⟩
    · obtain ⟨i, hi, rfl⟩ := List.getElem_of_mem hx
      exact (hq i hi).2
theorem pair_at {α β : Type} {d1 : Kd α} {d2 : Kd β} {W : World} {a : α} {b : β} {cs : List Value} (off n : Nat) (h1 : d1.K W a ((cs.drop off).take n)) (h2 : d2.K W b (cs.drop (off + n))) : (Kd.pair d1 d2).K W (a, b) (cs.drop off) :=
  ⟨(cs.drop off).take n, cs.drop (off + n), by rw [← List.drop_drop, List.take_append_drop], h1, h2⟩
theorem last_at {α : Type} {d : Kd α} {W : World} {a : α} {cs : List Value} (off n : Nat) (hl : cs.length = off + n) (h : d.K W a ((cs.drop off).take n)) : d.K W a (cs.drop off) := by
  rwa [List.take_of_length_le (by simp; omega)] at h
theorem drop_zero {α : Type} {d : Kd α} {W : World} {a : α} {cs : List Value} (h : d.K W a (cs.drop 0)) : d.K W a cs := h
theorem lst4 {α : Type} {l : List α} (h : l.length = 4) : ∃ a0 a1 a2 a3, l = [a0, a1, a2, a3] := by
  match l, h with
  | [a0, a1, a2, a3], _ => exact ⟨a0, a1, a2, a3, rfl⟩
/-- What can be told of whatever was read. -/
def Ok23 (x : S23) : Prop := (Lit.int .u8 x.f0).wf = true ∧ (Lit.int .u8 x.f1).wf = true ∧ (Lit.int .u8 x.f2).wf = true ∧ (Lit.int .u8 x.f3).wf = true
theorem o23 : Opens Tryd.prog 23 k23 Ok23 := by
  intro H enc W base sp held fuel cs y h
  obtain ⟨xs, n, _, _, hl, hn, hx_⟩ := DataW.trod_array Tryd.underlying23 h
  have hx : ∀ (i : Nat) (_ : Unit), i < 4 → DataW.trod enc Tryd.prog W base sp held n 5 ((cs.drop (i * 1)).take (Tryd.prog.cellsOf 5)) = xs[i]? := fun i _ hi => by have := hx_ i hi; rwa [show Tryd.prog.cellsOf 5 = 1 by kernel_rfl] at this ⊢
  rw [show Tryd.prog.cellsOf 23 = 4 by kernel_rfl] at hl
  obtain ⟨y0, y1, y2, y3, rfl⟩ := lst4 hn
  obtain ⟨x0, k0, e0⟩ := (opens_int Tryd.underlying5) (show DataW.trod enc Tryd.prog W base sp held n 5 ((cs.drop 0).take (Tryd.prog.cellsOf 5)) = some y0 from hx 0 () (by decide))
  rw [show Tryd.prog.cellsOf 5 = 1 by kernel_rfl] at k0
  obtain ⟨x1, k1, e1⟩ := (opens_int Tryd.underlying5) (show DataW.trod enc Tryd.prog W base sp held n 5 ((cs.drop 1).take (Tryd.prog.cellsOf 5)) = some y1 from hx 1 () (by decide))
  rw [show Tryd.prog.cellsOf 5 = 1 by kernel_rfl] at k1
  obtain ⟨x2, k2, e2⟩ := (opens_int Tryd.underlying5) (show DataW.trod enc Tryd.prog W base sp held n 5 ((cs.drop 2).take (Tryd.prog.cellsOf 5)) = some y2 from hx 2 () (by decide))
  rw [show Tryd.prog.cellsOf 5 = 1 by kernel_rfl] at k2
  obtain ⟨x3, k3, e3⟩ := (opens_int Tryd.underlying5) (show DataW.trod enc Tryd.prog W base sp held n 5 ((cs.drop 3).take (Tryd.prog.cellsOf 5)) = some y3 from hx 3 () (by decide))
  rw [show Tryd.prog.cellsOf 5 = 1 by kernel_rfl] at k3
  have hk : ((Kd.pair (Kd.int .u8) (Kd.pair (Kd.int .u8) (Kd.pair (Kd.int .u8) (Kd.int .u8))))).K W (x0, x1, x2, x3) (cs.drop 0) := (pair_at 0 1 k0 (pair_at 1 1 k1 (pair_at 2 1 k2 (last_at 3 1 hl k3))))
  exact ⟨⟨x0, x1, x2, x3⟩, hk, e0, e1, e2, e3⟩
end Go.Proofs.YtapjhgenjghfbaaDoor.HSumTells

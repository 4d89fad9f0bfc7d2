/- What the functions' Lean texts come to; no condition but those that each theorem states. -/
import Derived.Test.YtgefikclhfjcgaaDoorPureWalrecKeeps0
set_option linter.unusedVariables false
set_option linter.unusedSimpArgs false
set_option maxRecDepth 100000
namespace Go.Proofs.YtgefikclhfjcgaaDoor.EWalrecKeeps
open Go Go.Proofs.YtgefikclhfjcgaaDoorEv
theorem few_ev (a0 : Int) (a1 : ByteArray) (a2 a3 : Int) (l : List S_Column) (hl : l.length ≤ 9223372036854775807) : Ev (fun k => haulagelaw08_Few k a0 a1 a2 a3 l) (fewB a1 l) := by
  have hs : ∀ (k : Nat) (s : ByteArray), haulagelaw08_short k s = some (decide (s.size ≤ 200)) := fun k s => by
    unfold haulagelaw08_short
    congr 1
    by_cases h : s.size ≤ 200
    · rw [decide_eq_true (show (s.size : Int) ≤ 200 by omega), decide_eq_true h]
    · rw [decide_eq_false (show ¬ (s.size : Int) ≤ 200 by omega), decide_eq_false h]
  have h := down (P := fun i => Ev (fun k => haulagelaw08_Few.l0 k (i : Int) a0 a1 a2 a3 l) ((l.drop i).all fewC)) (n := l.length)
    (by rw [List.drop_length]; exact Ev.step (f := fun _ => some true) (fun k => by simp only [haulagelaw08_Few.l0]; rw [if_neg (by omega)]) (Ev.now _))
    (fun i hi ih => by
      rw [List.drop_eq_getElem_cons hi, List.all_cons]
      refine Ev.step (f := fun k => if decide (l[i].f1.size ≤ 200) = true then (if decide (l[i].f4.f2.size ≤ 200) = true then haulagelaw08_Few.l0 k ((i + 1 : Nat) : Int) a0 a1 a2 a3 l else some false) else some false) (fun k => ?_) ?_
      · simp only [haulagelaw08_Few.l0]
        rw [if_pos (by omega), if_pos (by omega), if_pos (by omega), if_pos (by omega), if_pos (by omega), rrd_col l i hi, i64w_succ _ (by omega), hs, hs, Option.bind_some, Option.bind_some]
      · unfold fewC
        by_cases h1 : l[i].f1.size ≤ 200
        · by_cases h2 : l[i].f4.f2.size ≤ 200
          · simp only [h1, h2, decide_true, if_true, Bool.true_and]
            exact ih
          · simp only [h1, h2, decide_true, decide_false, if_true, Bool.false_eq_true, if_false, Bool.and_false, Bool.false_and]
            exact Ev.now _
        · simp only [h1, decide_false, Bool.false_eq_true, if_false, Bool.false_and]
          exact Ev.now _) 0 (Nat.zero_le _)
  unfold haulagelaw08_Few fewB
  by_cases h1 : l.length ≤ 20
  · refine Ev.congr (fun k => by rw [if_neg (by omega), hs, Option.bind_some]) ?_
    rw [decide_eq_true h1, Bool.true_and]
    by_cases h2 : a1.size ≤ 200
    · rw [decide_eq_true h2, Bool.true_and]
      exact Ev.congr (fun k => if_pos rfl) h
    · rw [decide_eq_false h2, Bool.false_and]
      exact Ev.congr (f := fun _ => some false) (fun k => if_neg (by simp)) (Ev.now _)
  · rw [decide_eq_false h1, Bool.false_and]
    exact Ev.congr (f := fun _ => some false) (fun k => by rw [if_pos (by omega)]) (Ev.now _)
theorem fewB_iff (a1 : ByteArray) (l : List S_Column) : fewB a1 l = true ↔ l.length ≤ 20 ∧ a1.size ≤ 200 ∧ ∀ c ∈ l, c.f1.size ≤ 200 ∧ c.f4.f2.size ≤ 200 := by
  simp [fewB, fewC, List.all_eq_true]

def fewD (d : S_DDL) : Bool := decide (d.f1.size + d.f2.size + d.f3.size + d.f4.size + d.f7.f2.size ≤ 600) && fewB nilB d.f8
theorem fewd_ev (d : S_DDL) (h1 : d.f1.size ≤ 140737488351232) (h2 : d.f2.size ≤ 140737488351232) (h3 : d.f3.size ≤ 140737488351232) (h4 : d.f4.size ≤ 140737488351232) (h5 : d.f7.f2.size ≤ 140737488351232) (hl : d.f8.length ≤ 140737488351232) :
    Ev (fun k => haulagelaw09_Few k d.f0 d.f1 d.f2 d.f3 d.f4 d.f5.f0 d.f5.f1 d.f6 d.f7.f0 d.f7.f1 d.f7.f2 d.f8) (fewD d) := by
  unfold haulagelaw09_Few fewD
  have w1 : IntKind.i64.wrap ((d.f1.size : Int) + (d.f2.size : Int)) = (d.f1.size : Int) + (d.f2.size : Int) := i64w _ (by omega) (by omega)
  have w2 : IntKind.i64.wrap ((d.f1.size : Int) + (d.f2.size : Int) + (d.f3.size : Int)) = (d.f1.size : Int) + (d.f2.size : Int) + (d.f3.size : Int) := i64w _ (by omega) (by omega)
  have w3 : IntKind.i64.wrap ((d.f1.size : Int) + (d.f2.size : Int) + (d.f3.size : Int) + (d.f4.size : Int)) = (d.f1.size : Int) + (d.f2.size : Int) + (d.f3.size : Int) + (d.f4.size : Int) := i64w _ (by omega) (by omega)
  have w4 : IntKind.i64.wrap ((d.f1.size : Int) + (d.f2.size : Int) + (d.f3.size : Int) + (d.f4.size : Int) + (d.f7.f2.size : Int)) = (d.f1.size : Int) + (d.f2.size : Int) + (d.f3.size : Int) + (d.f4.size : Int) + (d.f7.f2.size : Int) := i64w _ (by omega) (by omega)
  rw [w1, w2, w3, w4]
  by_cases h : d.f1.size + d.f2.size + d.f3.size + d.f4.size + d.f7.f2.size ≤ 600
  · rw [decide_eq_true h, Bool.true_and]
    exact Ev.congr (fun k => if_pos (by omega)) (Ev.bind (few_ev 0 nilB 0 0 d.f8 (by omega)) (Ev.now _))
  · rw [decide_eq_false h, Bool.false_and]
    exact Ev.congr (f := fun _ => some false) (fun k => if_neg (by omega)) (Ev.now _)
theorem few_okD {d : S_DDL} (h : fewD d = true) (hw : (Lit.int .i64 d.f7.f1).wf = true) (hc : ∀ c ∈ d.f8, (Lit.int .i64 c.f4.f1).wf = true) : OkD d := by
  unfold fewD at h
  rw [Bool.and_eq_true, decide_eq_true_iff] at h
  have hb := (fewB_iff nilB d.f8).1 h.2
  refine ⟨by omega, by omega, by omega, by omega, by omega, hw, by omega, fun c hm => ?_⟩
  have := hb.2.2 c hm
  exact ⟨by omega, by omega, hc c hm⟩

/-- Is a change tried? -/
def fewK (x : S_Cell) : Bool := decide (x.f0.size + x.f2.f2.size ≤ 400)
def fewCh (c : Chg) : Bool := decide (c.tb.size + c.v.f2.size ≤ 400) && (decide (c.cl.length ≤ 20) && (fewD c.d && c.cl.all fewK))
/-- What a change's parts come to when a caller hands it in. -/
def WfC (c : Chg) : Prop := c.tb.size ≤ 140737488351232 ∧ c.v.f2.size ≤ 140737488351232 ∧ (Lit.int .i64 c.v.f1).wf = true ∧ c.cl.length ≤ 140737488351232 ∧
  (∀ x ∈ c.cl, x.f0.size ≤ 140737488351232 ∧ x.f2.f2.size ≤ 140737488351232 ∧ (Lit.int .i64 x.f2.f1).wf = true) ∧
  c.d.f1.size ≤ 140737488351232 ∧ c.d.f2.size ≤ 140737488351232 ∧ c.d.f3.size ≤ 140737488351232 ∧ c.d.f4.size ≤ 140737488351232 ∧ c.d.f7.f2.size ≤ 140737488351232 ∧
  c.d.f8.length ≤ 140737488351232 ∧ (Lit.int .i64 c.d.f7.f1).wf = true ∧ ∀ x ∈ c.d.f8, (Lit.int .i64 x.f4.f1).wf = true
theorem fewch_ev (c : Chg) (h : WfC c) :
    Ev (fun k => haulagelaw15_FewChange k c.k c.lsn c.tb c.v.f0 c.v.f1 c.v.f2 c.cl c.d.f0 c.d.f1 c.d.f2 c.d.f3 c.d.f4 c.d.f5.f0 c.d.f5.f1 c.d.f6 c.d.f7.f0 c.d.f7.f1 c.d.f7.f2 c.d.f8) (fewCh c) := by
  obtain ⟨h1, h2, _, h4, h5, d1, d2, d3, d4, d5, d6, _, _⟩ := h
  have hl := down (P := fun i => Ev (fun k => haulagelaw15_FewChange.l0 k (i : Int) c.k c.lsn c.tb c.v.f0 c.v.f1 c.v.f2 c.cl c.d.f0 c.d.f1 c.d.f2 c.d.f3 c.d.f4 c.d.f5.f0 c.d.f5.f1 c.d.f6 c.d.f7.f0 c.d.f7.f1 c.d.f7.f2 c.d.f8) ((c.cl.drop i).all fewK)) (n := c.cl.length)
    (by rw [List.drop_length]; exact Ev.step (f := fun _ => some true) (fun k => by simp only [haulagelaw15_FewChange.l0]; rw [if_neg (by omega)]) (Ev.now _))
    (fun i hi ih => by
      rw [List.drop_eq_getElem_cons hi, List.all_cons]
      have hx := h5 _ (List.getElem_mem hi)
      have w : IntKind.i64.wrap ((c.cl[i].f0.size : Int) + (c.cl[i].f2.f2.size : Int)) = (c.cl[i].f0.size : Int) + (c.cl[i].f2.f2.size : Int) := i64w _ (by omega) (by omega)
      by_cases hk : c.cl[i].f0.size + c.cl[i].f2.f2.size ≤ 400
      · rw [show fewK c.cl[i] = true from decide_eq_true hk, Bool.true_and]
        refine Ev.step (fun k => ?_) ih
        simp only [haulagelaw15_FewChange.l0]
        rw [if_pos (by omega), if_pos (by omega), if_pos (by omega), if_pos (by omega), if_pos (by omega), rd_cell c.cl i hi, w, if_neg (by omega), i64w_succ _ (by omega)]
      · rw [show fewK c.cl[i] = false from decide_eq_false hk, Bool.false_and]
        refine Ev.step (f := fun _ => some false) (fun k => ?_) (Ev.now _)
        simp only [haulagelaw15_FewChange.l0]
        rw [if_pos (by omega), if_pos (by omega), if_pos (by omega), if_pos (by omega), if_pos (by omega), rd_cell c.cl i hi, w, if_pos (by omega)]) 0 (Nat.zero_le _)
  have w : IntKind.i64.wrap ((c.tb.size : Int) + (c.v.f2.size : Int)) = (c.tb.size : Int) + (c.v.f2.size : Int) := i64w _ (by omega) (by omega)
  unfold haulagelaw15_FewChange fewCh
  rw [w]
  by_cases e1 : c.tb.size + c.v.f2.size ≤ 400
  case neg =>
    rw [decide_eq_false e1, Bool.false_and]
    exact Ev.congr (f := fun _ => some false) (fun k => if_pos (by omega)) (Ev.now _)
  rw [decide_eq_true e1, Bool.true_and]
  refine Ev.congr (fun k => if_neg (by omega)) ?_
  by_cases e2 : c.cl.length ≤ 20
  case neg =>
    rw [decide_eq_false e2, Bool.false_and]
    exact Ev.congr (f := fun _ => some false) (fun k => if_pos (by omega)) (Ev.now _)
  rw [decide_eq_true e2, Bool.true_and]
  refine Ev.congr (fun k => if_neg (by omega)) (Ev.bind (fewd_ev c.d d1 d2 d3 d4 d5 d6) ?_)
  cases fewD c.d
  · exact Ev.congr (f := fun _ => some false) (fun k => if_neg (by simp)) (Ev.now _)
  · exact Ev.congr (fun k => if_pos rfl) hl
theorem fewch_ok {c : Chg} (hf : fewCh c = true) (h : WfC c) : c.tb.size ≤ 400 ∧ OkVal c.v ∧ c.v.f2.size ≤ 400 ∧ c.cl.length ≤ 20 ∧ (∀ x ∈ c.cl, x.f0.size ≤ 400 ∧ OkVal x.f2) ∧ OkD c.d := by
  unfold fewCh at hf
  rw [Bool.and_eq_true, Bool.and_eq_true, Bool.and_eq_true, decide_eq_true_iff, decide_eq_true_iff, List.all_eq_true] at hf
  obtain ⟨f1, f2, f3, f4⟩ := hf
  obtain ⟨_, _, h3, _, h5, _, _, _, _, _, _, w1, w2⟩ := h
  refine ⟨by omega, ⟨by omega, h3⟩, by omega, f2, fun x hx => ?_, few_okD f3 w1 w2⟩
  have := f4 x hx
  unfold fewK at this
  rw [decide_eq_true_iff] at this
  exact ⟨by omega, by omega, (h5 x hx).2.2⟩

theorem valEq_iff {u v : S_Value} : valEq u v = true ↔ u = v := by
  constructor
  · intro h
    unfold valEq at h
    rw [Bool.and_eq_true, Bool.and_eq_true, beq_iff_eq, beq_iff_eq, beq_iff_eq] at h
    obtain ⟨h1, h2, h3⟩ := h
    cases u
    cases v
    simp only at h1 h2 h3
    rw [h1, h2, ba_inj h3]
  · rintro rfl
    simp [valEq]
theorem bare_of {d : S_DDL} (h : sameD d (bareD 0 nilB) = true) : d = bareD 0 nilB := by
  unfold sameD at h
  simp only [Bool.and_eq_true, beq_iff_eq, bareD, ba_iff] at h
  obtain ⟨d0, d1, d2, d3, d4, ⟨t0, t1⟩, d6, ⟨v0, v1, v2⟩, d8⟩ := d
  simp only at h
  obtain ⟨e0, e1, e2, e3, e4, e5, e6, e7, e8⟩ := h
  have e9 : d8 = [] := by
    unfold colsEq at e8
    rw [Bool.and_eq_true, decide_eq_true_iff] at e8
    exact List.length_eq_zero_iff.1 e8.1
  simp_all [bareD, zT, zV]
theorem laid_cells : ∀ (l : List S_Column) (cl : List S_Cell), cl.length = l.length → laidB l cl = true → cellsZ l (rowOfCells cl) = cl
  | [], [], _, _ => rfl
  | [], _ :: _, h, _ => by simp at h
  | _ :: _, [], h, _ => by simp at h
  | c :: r, x :: s, h, hl => by
    simp only [laidB, Bool.and_eq_true] at hl
    have ih := laid_cells r s (by simpa using h) hl.2
    unfold rowOfCells at ih ⊢
    simp only [List.map_cons, cellsZ, ih]
    congr 1
    have h1 := hl.1
    unfold cellB at h1
    rw [Bool.and_eq_true, Bool.and_eq_true, decide_eq_true_iff, beq_iff_eq, beq_iff_eq] at h1
    obtain ⟨e1, e2, e3⟩ := h1
    obtain ⟨x0, ⟨x1, x2⟩, x3⟩ := x
    simp only at e1 e2 e3
    subst e1 e2 e3
    rfl
theorem cells_laid : ∀ (l : List S_Column) (row : List S_Value), row.length = l.length → (cellsZ l row).length = l.length ∧ laidB l (cellsZ l row) = true ∧ rowOfCells (cellsZ l row) = row
  | [], [], _ => ⟨rfl, rfl, rfl⟩
  | [], _ :: _, h => by simp at h
  | _ :: _, [], h => by simp at h
  | c :: r, v :: s, h => by
    obtain ⟨h1, h2, h3⟩ := cells_laid r s (by simpa using h)
    unfold rowOfCells at h3 ⊢
    refine ⟨by simp [cellsZ, h1], ?_, by simp only [cellsZ, List.map_cons, h3]⟩
    simp only [cellsZ, laidB, h2, Bool.and_true]
    unfold cellB
    simp
theorem readddl_canon {s : ByteArray} (h : (readddlS s).2 = 0) : canB (readddlS s).1 = true ∧ strOfNums (ddlE (readddlS s).1) = s := by
  by_cases he : endP (canB (ddlP (s, 0)).1) (ddlP (s, 0)).2 = 0
  · obtain ⟨e1, e2, e3⟩ := endP_ok he
    have hrd : readddlS s = ((ddlP (s, 0)).1, 0) := by unfold readddlS; rw [if_pos he]
    rw [hrd]
    exact ⟨e3, (nil_take (ddlP_back (s, 0) e1).1 e2).symm⟩
  · have hrd : readddlS s = (bareD 0 nilB, endP (canB (ddlP (s, 0)).1) (ddlP (s, 0)).2) := by unfold readddlS; rw [if_neg he]
    rw [hrd] at h
    exact absurd h he
theorem Chg.ext' {c d : Chg} (h1 : c.k = d.k) (h2 : c.lsn = d.lsn) (h3 : c.tb = d.tb) (h4 : c.v = d.v) (h5 : c.cl = d.cl) (h6 : c.d = d.d) : c = d := by
  cases c; cases d; simp only at h1 h2 h3 h4 h5 h6; subst h1 h2 h3 h4 h5 h6; rfl
theorem extract_none (s : ByteArray) (n : Int) (h : ¬ n < (s.size : Int)) : s.extract n.toNat s.size = nilB := by
  have h2 : (s.extract n.toNat s.size).size = 0 := by simp; omega
  exact ByteArray.ext (Array.eq_empty_of_size_eq_zero h2)
theorem strs_nilB (l : List Int) : strOfNums l ++ nilB = strOfNums l := by
  show strOfNums l ++ strOfNums [] = _
  rw [← strOfNums_append, List.append_nil]
/-- What is packed can be unpacked. -/
theorem pack_unpack {txn id : Int} {name : ByteArray} {key next : Int} {l : List S_Column} {c : Chg} {r : RT} (hb : l.length ≤ 1000) (hc : PackC c) (h : packP txn id name key next l c = (r, 0)) :
    unpackP r.1 r.2.1 r.2.2.1 r.2.2.2 id name key next l c.lsn = (c, 0) ∧ r.2.2.2.size ≤ 1000000 := by
  obtain ⟨hcv, hcl, hcc, hcd⟩ := hc
  unfold packP at h
  by_cases h0 : txn < 0 ∨ plainC c = false
  · rw [if_pos h0] at h; cases h
  rw [if_neg h0] at h
  have hp : plainC c = true := by cases q : plainC c; exact absurd (Or.inr q) h0; rfl
  have ht0 : ¬ txn < 0 := fun q => h0 (Or.inl q)
  have hp' := hp
  unfold plainC at hp
  rw [Bool.and_eq_true, decide_eq_true_iff] at hp
  obtain ⟨hlsn, hp⟩ := hp
  by_cases h4 : c.k = 4
  · rw [if_pos h4] at h
    rw [if_neg (by omega), if_neg (by omega), if_pos h4, Bool.and_eq_true, Bool.and_eq_true, decide_eq_true_iff, decide_eq_true_iff] at hp
    obtain ⟨q1, q2, q3⟩ := hp
    cases hcan : canB c.d
    · rw [hcan, if_neg (by simp)] at h; cases h
    rw [hcan, if_pos rfl] at h
    cases h
    obtain ⟨hf, hsz⟩ := readddl_fwd c.d hcan hcd
    have hR : recR 5 txn 0 (strOfNums (ddlE c.d)) = true := recR_mk ⟨by decide, by decide, by omega, by decide, Or.inl (by decide), Or.inl rfl, Or.inr ⟨by decide, by decide, by simp only [strOfNums_size]; omega⟩⟩
    refine ⟨?_, by simp only [strOfNums_size]; omega⟩
    unfold unpackP
    rw [if_pos ⟨hR, (show (2 : Int) ≤ 5 ∧ (5 : Int) ≤ 5 by decide), hlsn⟩, if_pos rfl]
    simp only [hf, if_true]
    rw [Prod.mk.injEq]
    exact ⟨Chg.ext' h4.symm rfl q1.symm (nil_of q2).symm (List.length_eq_zero_iff.1 q3).symm rfl, rfl⟩
  rw [if_neg h4] at h
  by_cases ht : tabB id name key next l = true
  case neg => rw [if_neg ht] at h; cases h
  rw [if_pos ht] at h
  by_cases hname : name = c.tb
  case neg => rw [if_neg hname] at h; cases h
  rw [if_pos hname] at h
  obtain ⟨i, hil, hk1, _⟩ := key_at ht
  have hki : keyI key l = i := by unfold keyI; rw [hk1]; rfl
  have hgi : l.getD i colZ = l[i] := by rw [List.getD_eq_getElem?_getD, List.getElem?_eq_getElem hil]; rfl
  have hid := tabB_id ht
  have hty := tabB_types ht
  rw [hki, hgi] at h
  by_cases h3 : c.k = 3
  · rw [if_pos h3] at h
    rw [if_neg (by omega), if_pos h3, Bool.and_eq_true, decide_eq_true_iff] at hp
    cases hf : fitB l[i].f2.f0 l[i].f2.f1 c.v.f0 c.v.f1 c.v.f2
    · rw [hf, if_neg (by simp)] at h; cases h
    rw [hf, if_pos rfl] at h
    cases h
    have hs := oneV_small c.v hcv (by have := valB_size (fit_parts hf).2.2.1; omega)
    have hR : recR 4 txn id (strOfNums (oneV c.v)) = true := recR_mk ⟨by decide, by decide, by omega, by omega, Or.inl (by decide), Or.inr (by decide), Or.inr ⟨by decide, by decide, by simp only [strOfNums_size]; omega⟩⟩
    refine ⟨?_, by simp only [strOfNums_size]; omega⟩
    have hrd := readS_one l[i].f2.f0 l[i].f2.f1 c.v hcv hf nilB
    rw [strs_nilB] at hrd
    have hrk : readK l[i].f2.f0 l[i].f2.f1 (strOfNums (oneV c.v)) = (c.v, 0) := by
      unfold readK
      rw [hrd]
      simp only [if_true]
      rw [if_neg (by simp only [strOfNums_size]; omega)]
    unfold unpackP
    rw [if_pos ⟨hR, (show (2 : Int) ≤ 4 ∧ (4 : Int) ≤ 5 by decide), hlsn⟩, if_neg (show ¬ (4 : Int) = 5 by decide), if_pos ht, if_pos rfl, if_pos rfl, hki, hgi, hrk, if_pos rfl, Prod.mk.injEq]
    exact ⟨Chg.ext' (by rw [h3]; rfl) rfl hname rfl (List.length_eq_zero_iff.1 hp.2).symm (bare_of hp.1).symm, rfl⟩
  rw [if_neg h3] at h
  have hk12 : c.k = 1 ∨ c.k = 2 := by have := plainC_kind hp'; omega
  rw [if_pos hk12] at hp
  by_cases hl : c.cl.length = l.length ∧ laidB l c.cl = true
  case neg => rw [if_neg hl] at h; cases h
  rw [if_pos hl] at h
  unfold packR at h
  by_cases hE : rowE id name key next l (rowOfCells c.cl) = 0
  case neg => rw [if_neg hE, Prod.mk.injEq] at h; exact absurd h.2 hE
  rw [if_pos hE] at h
  cases hV : valEq ((rowOfCells c.cl).getD i nilV) c.v
  · rw [hV, if_neg (by simp)] at h; cases h
  rw [hV, if_pos rfl] at h
  cases h
  have hrl : (rowOfCells c.cl).length = l.length := by simp [rowOfCells, hl.1]
  have hv : ∀ v ∈ rowOfCells c.cl, OkVal v := fun v hv => by
    obtain ⟨x, hx, rfl⟩ := List.mem_map.1 hv
    exact hcc x hx
  have hsz := encS_short hE hv
  have hg : rowGo l (rowOfCells c.cl) = 0 := by
    unfold rowE fitsE at hE
    rw [if_pos ht, if_pos hrl] at hE
    exact hE
  have hR : recR (c.k + 1) txn id (strOfNums (encS (rowOfCells c.cl))) = true := recR_mk ⟨by omega, by omega, by omega, by omega, Or.inl (by omega), Or.inr (by omega), Or.inr ⟨by omega, by omega, by simp only [strOfNums_size]; omega⟩⟩
  refine ⟨?_, by simp only [strOfNums_size]; omega⟩
  have hde := dec_enc l (rowOfCells c.cl) hrl hg hv
  unfold unpackP
  rw [if_pos ⟨hR, by simp only; omega, hlsn⟩, if_neg (by simp only; omega), if_pos ht, if_pos rfl, if_neg (by simp only; omega)]
  simp only [hde, if_true]
  rw [hki, valEq_iff.1 hV, laid_cells l c.cl hl.1 hl.2, Prod.mk.injEq]
  exact ⟨Chg.ext' (by simp only; omega) rfl hname rfl rfl (bare_of hp).symm, rfl⟩
/-- What is unpacked can be packed. -/
theorem unpack_pack {a b c : Int} {s : ByteArray} {id : Int} {name : ByteArray} {key next : Int} {l : List S_Column} {lsn : Int} {v : Chg} {e : Int} (hs : s.size ≤ 1000000) (hb : l.length ≤ 1000)
    (h : unpackP a b c s id name key next l lsn = (v, e)) :
    (e = 0 → PackC v ∧ plainC v = true ∧ packP b id name key next l v = ((a, b, c, s), 0)) ∧ (e ≠ 0 → v = noC) := by
  unfold unpackP at h
  by_cases h0 : recR a b c s = true ∧ (2 ≤ a ∧ a ≤ 5) ∧ 0 ≤ lsn
  case neg => rw [if_neg h0] at h; cases h; exact ⟨fun q => absurd q (by decide), fun _ => rfl⟩
  rw [if_pos h0] at h
  obtain ⟨hR, hi, hlsn⟩ := h0
  have hR' := of_decide_eq_true hR
  have hOkB : OkD (bareD 0 nilB) := by
    have w0 : (Lit.int .i64 0).wf = true := by decide
    exact ⟨by decide, by decide, by decide, by decide, by decide, w0, by decide, by simp [bareD]⟩
  by_cases h5 : a = 5
  · rw [if_pos h5] at h
    by_cases he : (readddlS s).2 = 0
    case neg => rw [if_neg he] at h; cases h; exact ⟨fun q => absurd q he, fun _ => rfl⟩
    rw [if_pos he] at h
    cases h
    obtain ⟨hcan, hcs⟩ := readddl_canon he
    have hok := ok_read s
    refine ⟨fun _ => ?_, fun q => absurd rfl q⟩
    have hpl : plainC ⟨4, lsn, (readddlS s).1.f1, nilV, [], (readddlS s).1⟩ = true := by
      unfold plainC
      simp [hlsn, nilV_zero]
    refine ⟨⟨(show OkVal nilV from ⟨by decide, by decide⟩), by simp, by simp, hok⟩, hpl, ?_⟩
    unfold packP
    rw [if_neg (by rw [hpl]; simp; omega), if_pos rfl, if_pos hcan, hcs, show c = 0 from by omega, h5]
  rw [if_neg h5] at h
  by_cases ht : tabB id name key next l = true
  case neg => rw [if_neg ht] at h; cases h; exact ⟨fun q => absurd q (by decide), fun _ => rfl⟩
  rw [if_pos ht] at h
  by_cases hid : id = c
  case neg => rw [if_neg hid] at h; cases h; exact ⟨fun q => absurd q (by decide), fun _ => rfl⟩
  rw [if_pos hid] at h
  obtain ⟨i, hil, hk1, _⟩ := key_at ht
  have hki : keyI key l = i := by unfold keyI; rw [hk1]; rfl
  have hgi : l.getD i colZ = l[i] := by rw [List.getD_eq_getElem?_getD, List.getElem?_eq_getElem hil]; rfl
  have hty := tabB_types ht
  rw [hki, hgi] at h
  by_cases h4 : a = 4
  · rw [if_pos h4] at h
    by_cases he : (readK l[i].f2.f0 l[i].f2.f1 s).2 = 0
    case neg => rw [if_neg he] at h; cases h; exact ⟨fun q => absurd q he, fun _ => rfl⟩
    rw [if_pos he] at h
    cases h
    refine ⟨fun _ => ?_, fun q => absurd rfl q⟩
    have hk : (readS l[i].f2.f0 l[i].f2.f1 s).2.2 = 0 ∧ ¬ (readS l[i].f2.f0 l[i].f2.f1 s).2.1 < (s.size : Int) ∧ readK l[i].f2.f0 l[i].f2.f1 s = ((readS l[i].f2.f0 l[i].f2.f1 s).1, 0) := by
      unfold readK at he ⊢
      by_cases q1 : (readS l[i].f2.f0 l[i].f2.f1 s).2.2 = 0
      · rw [if_pos q1] at he ⊢
        by_cases q2 : (readS l[i].f2.f0 l[i].f2.f1 s).2.1 < (s.size : Int)
        · rw [if_pos q2] at he; cases he
        · exact ⟨q1, q2, by rw [if_neg q2]⟩
      · rw [if_neg q1] at he
        exact absurd he q1
    obtain ⟨k1, k2, k3⟩ := hk
    rw [k3]
    obtain ⟨b1, b2, b3, b4⟩ := readS_back l[i].f2.f0 l[i].f2.f1 s (hty _ (List.getElem_mem hil)) (by omega) k1
    rw [extract_none s _ k2, strs_nilB] at b3
    have hpl : plainC ⟨a - 1, lsn, name, (readS l[i].f2.f0 l[i].f2.f1 s).1, [], bareD 0 nilB⟩ = true := by
      unfold plainC
      rw [h4]
      simp [hlsn, sameD_refl]
    refine ⟨⟨b4, by simp, by simp, hOkB⟩, hpl, ?_⟩
    unfold packP
    rw [if_neg (by rw [hpl]; simp; omega), if_neg (by simp only; omega), if_pos ht, if_pos rfl, if_pos (by simp only; omega), hki, hgi, if_pos b1, b3, hid, h4]
  rw [if_neg h4] at h
  by_cases he : (decR l s).2 = 0
  case neg => rw [if_neg he] at h; cases h; exact ⟨fun q => absurd q he, fun _ => rfl⟩
  obtain ⟨row, r1, r2, r3, r4, r5⟩ := enc_dec l s hs hty he
  rw [if_pos he, r1] at h
  cases h
  refine ⟨fun _ => ?_, fun q => absurd rfl q⟩
  obtain ⟨c1, c2, c3⟩ := cells_laid l row r2
  have hgr : row.getD i nilV = row[i]'(by omega) := by rw [List.getD_eq_getElem?_getD, List.getElem?_eq_getElem (by omega)]; rfl
  have hpl : plainC ⟨a - 1, lsn, name, row.getD i nilV, cellsZ l row, bareD 0 nilB⟩ = true := by
    unfold plainC
    rw [if_pos (by simp only; omega)]
    simp [hlsn, sameD_refl]
  refine ⟨⟨by rw [hgr]; exact r4 _ (List.getElem_mem _), by simp only; omega, fun x hx => ?_, hOkB⟩, hpl, ?_⟩
  · apply r4
    rw [← c3]
    exact List.mem_map_of_mem hx
  have hE : rowE id name key next l row = 0 := by unfold rowE fitsE; rw [if_pos ht, if_pos r2]; exact r3
  unfold packP
  rw [if_neg (by rw [hpl]; simp; omega), if_neg (by simp only; omega), if_pos ht, if_pos rfl, if_neg (by simp only; omega), if_pos ⟨c1, c2⟩, hki]
  unfold packR
  simp only [c3]
  rw [if_pos hE, if_pos (valEq_iff.2 rfl), r5, hid, show a - 1 + 1 = a from by omega]

theorem fewrec_eq (k : Nat) (a b c : Int) (s : ByteArray) : haulagelaw18_Few k a b c s = some (decide ((s.size : Int) ≤ 70000)) := rfl
theorem packC_chg {v : Chg} (h : PackC v) : OkChg v := ⟨by have := h.2.1; omega, h.2.2.2.2.2.2.2.2.2.1⟩
/-- The second half: unpacked, then packed. -/
theorem keeps_back (a b c : Int) (s : ByteArray) (id : Int) (name : ByteArray) (key next : Int) (l : List S_Column) (lsn : Int) (hs : s.size ≤ 1000000) (hn : name.size ≤ 1000000000) (hok : ∀ c ∈ l, OkCol c) (hb : l.length ≤ 1000) :
    Ev (fun k => ((walrec_Unpack k a b c s id name key next l lsn).bind fun t8 => (if t8.2 = 0 then ((walrec_Pack k b id name key next l t8.1.1 t8.1.2.1 t8.1.2.2.1 t8.1.2.2.2.1 t8.1.2.2.2.2.1 t8.1.2.2.2.2.2.1 t8.1.2.2.2.2.2.2.1 t8.1.2.2.2.2.2.2.2.1 t8.1.2.2.2.2.2.2.2.2.1 t8.1.2.2.2.2.2.2.2.2.2.1 t8.1.2.2.2.2.2.2.2.2.2.2.1 t8.1.2.2.2.2.2.2.2.2.2.2.2.1 t8.1.2.2.2.2.2.2.2.2.2.2.2.2.1 t8.1.2.2.2.2.2.2.2.2.2.2.2.2.2.1 t8.1.2.2.2.2.2.2.2.2.2.2.2.2.2.2.1 t8.1.2.2.2.2.2.2.2.2.2.2.2.2.2.2.2.1 t8.1.2.2.2.2.2.2.2.2.2.2.2.2.2.2.2.2.1 t8.1.2.2.2.2.2.2.2.2.2.2.2.2.2.2.2.2.2.1 t8.1.2.2.2.2.2.2.2.2.2.2.2.2.2.2.2.2.2.2).bind fun t9 => (if t9.2 = 0 then (if ((t9.1.1 == a) && ((t9.1.2.1 == b) && ((t9.1.2.2.1 == c) && (t9.1.2.2.2.toList == s.toList)))) = true then ((haulageref15_PlainChange k t8.1.1 t8.1.2.1 t8.1.2.2.1 t8.1.2.2.2.1 t8.1.2.2.2.2.1 t8.1.2.2.2.2.2.1 t8.1.2.2.2.2.2.2.1 t8.1.2.2.2.2.2.2.2.1 t8.1.2.2.2.2.2.2.2.2.1 t8.1.2.2.2.2.2.2.2.2.2.1 t8.1.2.2.2.2.2.2.2.2.2.2.1 t8.1.2.2.2.2.2.2.2.2.2.2.2.1 t8.1.2.2.2.2.2.2.2.2.2.2.2.2.1 t8.1.2.2.2.2.2.2.2.2.2.2.2.2.2.1 t8.1.2.2.2.2.2.2.2.2.2.2.2.2.2.2.1 t8.1.2.2.2.2.2.2.2.2.2.2.2.2.2.2.2.1 t8.1.2.2.2.2.2.2.2.2.2.2.2.2.2.2.2.2.1 t8.1.2.2.2.2.2.2.2.2.2.2.2.2.2.2.2.2.2.1 t8.1.2.2.2.2.2.2.2.2.2.2.2.2.2.2.2.2.2.2).bind fun t10 => (some t10)) else (some false)) else (some false))) else ((haulageref15_SameChange k t8.1.1 t8.1.2.1 t8.1.2.2.1 t8.1.2.2.2.1 t8.1.2.2.2.2.1 t8.1.2.2.2.2.2.1 t8.1.2.2.2.2.2.2.1 t8.1.2.2.2.2.2.2.2.1 t8.1.2.2.2.2.2.2.2.2.1 t8.1.2.2.2.2.2.2.2.2.2.1 t8.1.2.2.2.2.2.2.2.2.2.2.1 t8.1.2.2.2.2.2.2.2.2.2.2.2.1 t8.1.2.2.2.2.2.2.2.2.2.2.2.2.1 t8.1.2.2.2.2.2.2.2.2.2.2.2.2.2.1 t8.1.2.2.2.2.2.2.2.2.2.2.2.2.2.2.1 t8.1.2.2.2.2.2.2.2.2.2.2.2.2.2.2.2.1 t8.1.2.2.2.2.2.2.2.2.2.2.2.2.2.2.2.2.1 t8.1.2.2.2.2.2.2.2.2.2.2.2.2.2.2.2.2.2.1 t8.1.2.2.2.2.2.2.2.2.2.2.2.2.2.2.2.2.2.2 0 0 (⟨#[]⟩ : ByteArray) 0 0 (⟨#[]⟩ : ByteArray) [] 0 (⟨#[]⟩ : ByteArray) (⟨#[]⟩ : ByteArray) (⟨#[]⟩ : ByteArray) (⟨#[]⟩ : ByteArray) 0 0 false 0 0 (⟨#[]⟩ : ByteArray) []).bind fun t11 => (some t11))))) true := by
  have hu := unpack_w a b c s id name key next l lsn hs hn hok (by omega)
  have hp := unpack_pack (v := (unpackP a b c s id name key next l lsn).1) (e := (unpackP a b c s id name key next l lsn).2) hs hb (show unpackP a b c s id name key next l lsn = ((unpackP a b c s id name key next l lsn).1, (unpackP a b c s id name key next l lsn).2) from rfl)
  generalize unpackP a b c s id name key next l lsn = q at hu hp
  obtain ⟨v, e⟩ := q
  simp only at hu hp
  refine Ev.bind hu ?_
  by_cases he : e = 0
  · obtain ⟨h1, h2, h3⟩ := hp.1 he
    refine Ev.congr (fun k => if_pos he) ?_
    have hw := pack_w b id name key next l v hn hok hb h1
    rw [h3] at hw
    refine Ev.bind hw (Ev.congr (fun k => if_pos rfl) (Ev.congr (fun k => if_pos (by simp)) ?_))
    have hq := rplainC_ev v h1.2.2.2.2.2.2.2.2.2.1
    rw [h2] at hq
    exact Ev.bind hq (Ev.now _)
  · obtain rfl := hp.2 he
    refine Ev.congr (fun k => if_neg he) ?_
    exact Ev.bind (samechg_self noC okNo) (Ev.now _)
theorem law_ev (txn : Int) (id : Int) (name : ByteArray) (key next : Int) (l : List S_Column) (c : Chg) (ra rb rc : Int) (rs : ByteArray) (lsn : Int) (hl : l.length ≤ 9223372036854775807) (hw : ∀ c ∈ l, (Lit.int .i64 c.f4.f1).wf = true) (hc : WfC c) :
    Ev (fun k => haulagelaw18_WalrecKeeps k txn id name key next l c.k c.lsn c.tb c.v.f0 c.v.f1 c.v.f2 c.cl c.d.f0 c.d.f1 c.d.f2 c.d.f3 c.d.f4 c.d.f5.f0 c.d.f5.f1 c.d.f6 c.d.f7.f0 c.d.f7.f1 c.d.f7.f2 c.d.f8 ra rb rc rs lsn) true := by
  unfold haulagelaw18_WalrecKeeps
  refine Ev.bind lives18_ev (Ev.congr (fun k => if_pos rfl) ?_)
  refine Ev.bind (few_ev id name key next l hl) ?_
  cases hf : fewB name l
  · exact Ev.congr (f := fun _ => some true) (fun k => if_neg (by simp)) (Ev.now _)
  refine Ev.congr (fun k => if_pos rfl) ?_
  refine Ev.bind (fewch_ev c hc) ?_
  cases hg : fewCh c
  · exact Ev.congr (f := fun _ => some true) (fun k => if_neg (by simp)) (Ev.now _)
  refine Ev.congr (fun k => if_pos rfl) ?_
  refine Ev.bind (Ev.pure fun k => fewrec_eq k ra rb rc rs) ?_
  by_cases hs : (rs.size : Int) ≤ 70000
  case neg =>
    rw [decide_eq_false hs]
    exact Ev.congr (f := fun _ => some true) (fun k => if_neg (by simp)) (Ev.now _)
  rw [decide_eq_true hs]
  refine Ev.congr (fun k => if_pos rfl) ?_
  have hb := (fewB_iff name l).1 hf
  obtain ⟨_, g2, _, g4, g5, g6⟩ := fewch_ok hg hc
  have hok : ∀ c ∈ l, OkCol c := fun c hc => by have := hb.2.2 c hc; exact ⟨by omega, by omega, hw c hc⟩
  have hpc : PackC c := ⟨g2, by omega, fun x hx => (g5 x hx).2, g6⟩
  have back := keeps_back ra rb rc rs id name key next l lsn (by omega) (by omega) hok (by omega)
  have hp := pack_w txn id name key next l c (by omega) hok (by omega) hpc
  have hpu := @pack_unpack txn id name key next l c
  generalize packP txn id name key next l c = q at hp hpu
  obtain ⟨r, e⟩ := q
  refine Ev.bind hp ?_
  by_cases he : e = 0
  · subst he
    obtain ⟨h1, h2⟩ := hpu (by omega) hpc rfl
    have hu := unpack_w r.1 r.2.1 r.2.2.1 r.2.2.2 id name key next l c.lsn h2 (by omega) hok (by omega)
    rw [h1] at hu
    refine Ev.congr (fun k => if_pos rfl) (Ev.bind hu (Ev.congr (fun k => if_pos rfl) ?_))
    exact Ev.bind (samechg_self c (packC_chg hpc)) (Ev.congr (fun k => if_pos rfl) back)
  · exact Ev.congr (fun k => if_neg he) back

end Go.Proofs.YtgefikclhfjcgaaDoor.EWalrecKeeps

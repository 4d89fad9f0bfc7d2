/- For any two catalogs, any name and any number: where tables and columns stand, and whether two are alike, is what the reference says; no condition but that the tables hold what the program's text lays in them. -/
import Derived.Test.YtdeophpjammbpaaDoorHSchemaFindsx16
import Derived.Test.YtdeophpjammbpaaDoorOpenSchemaFinds
set_option linter.unusedVariables false
set_option linter.unusedSimpArgs false
namespace Go.Proofs.YtdeophpjammbpaaDoor.Pure
open Go.RowKit Go.Proofs.YtdeophpjammbpaaDoor.HSchemaFinds Go.Proofs.YtdeophpjammbpaaDoorW.PrintWords Go.Proofs.YtdeophpjammbpaaDoorW.PrintLast Go.Proofs.YtdeophpjammbpaaDoorW.PrintMore
/- piece flat -/
theorem Ev.flat0 {α : Type} {g : Nat → Option α} {r : α} (d : Nat) (h : ∀ m, g (m + d) = some r) : Ev g r :=
  ⟨d, fun k hk => by obtain ⟨m, rfl⟩ : ∃ m, k = m + d := ⟨k - d, by omega⟩; exact h m⟩
theorem Ev.flat1 {α β : Type} {g : Nat → Option α} {r : α} {f1 : Nat → Option β} {v1 : β} (d : Nat) (h1 : Ev f1 v1) (h : ∀ m, (∀ j, f1 (m + j) = some v1) → g (m + d) = some r) : Ev g r := by
  obtain ⟨K1, e1⟩ := h1
  refine ⟨K1 + d, fun k hk => ?_⟩
  obtain ⟨m, rfl⟩ : ∃ m, k = m + d := ⟨k - d, by omega⟩
  exact h m (fun j => e1 _ (by omega))
theorem Ev.flat2 {α β γ : Type} {g : Nat → Option α} {r : α} {f1 : Nat → Option β} {v1 : β} {f2 : Nat → Option γ} {v2 : γ} (d : Nat) (h1 : Ev f1 v1) (h2 : Ev f2 v2)
    (h : ∀ m, (∀ j, f1 (m + j) = some v1) → (∀ j, f2 (m + j) = some v2) → g (m + d) = some r) : Ev g r := by
  obtain ⟨K1, e1⟩ := h1
  obtain ⟨K2, e2⟩ := h2
  refine ⟨K1 + K2 + d, fun k hk => ?_⟩
  obtain ⟨m, rfl⟩ : ∃ m, k = m + d := ⟨k - d, by omega⟩
  exact h m (fun j => e1 _ (by omega)) (fun j => e2 _ (by omega))
theorem Ev.flat3 {α β γ δ : Type} {g : Nat → Option α} {r : α} {f1 : Nat → Option β} {v1 : β} {f2 : Nat → Option γ} {v2 : γ} {f3 : Nat → Option δ} {v3 : δ} (d : Nat) (h1 : Ev f1 v1) (h2 : Ev f2 v2) (h3 : Ev f3 v3)
    (h : ∀ m, (∀ j, f1 (m + j) = some v1) → (∀ j, f2 (m + j) = some v2) → (∀ j, f3 (m + j) = some v3) → g (m + d) = some r) : Ev g r := by
  obtain ⟨K1, e1⟩ := h1
  obtain ⟨K2, e2⟩ := h2
  obtain ⟨K3, e3⟩ := h3
  refine ⟨K1 + K2 + K3 + d, fun k hk => ?_⟩
  obtain ⟨m, rfl⟩ : ∃ m, k = m + d := ⟨k - d, by omega⟩
  exact h m (fun j => e1 _ (by omega)) (fun j => e2 _ (by omega)) (fun j => e3 _ (by omega))
theorem Ev.eq {α : Type} {g : Nat → Option α} {r s : α} (h : Ev g r) (e : r = s) : Ev g s := e ▸ h
theorem wrap_id (n : Int) (h0 : -9223372036854775808 ≤ n) (h1 : n ≤ 9223372036854775807) : wrap64 n = n := by
  unfold wrap64
  omega
theorem wrap_succ (n : Nat) (h : n < 9223372036854775807) : wrap64 ((n : Int) + 1) = ((n + 1 : Nat) : Int) := by
  rw [wrap_id _ (by omega) (by omega)]
  omega
theorem mid_get {α : Type} (pre : List α) (x : α) (r : List α) (z : α) : (pre ++ x :: r).getD ((pre.length : Int).toNat) z = x := by
  simp [List.getD]
theorem mid_lt {α : Type} (pre : List α) (x : α) (r : List α) : ((pre.length : Nat) : Int) < ((pre ++ x :: r).length : Int) := by
  simp only [List.length_append, List.length_cons]
  omega
theorem end_lt {α : Type} (pre : List α) : ¬ ((pre.length : Nat) : Int) < ((pre ++ ([] : List α)).length : Int) := by
  simp
theorem mid_snoc {α : Type} (pre : List α) (x : α) (r : List α) : pre ++ x :: r = (pre ++ [x]) ++ r := by simp
theorem mid_len {α : Type} (pre : List α) (x : α) : (pre ++ [x]).length = pre.length + 1 := by simp
theorem down {P : Nat → Prop} {n : Nat} (h0 : P n) (hs : ∀ i, i < n → P (i + 1) → P i) : ∀ i, i ≤ n → P i := by
  intro i hi
  obtain ⟨d, rfl⟩ : ∃ d, n = i + d := ⟨n - i, by omega⟩
  clear hi
  induction d generalizing i with
  | zero => exact h0
  | succ d ih => exact hs i (by omega) (ih (i + 1) (by rw [show i + 1 + d = i + (d + 1) by omega]; exact h0) (by rw [show i + 1 + d = i + (d + 1) by omega]; exact hs))
theorem beq_dec (a b : Int) : (a == b) = decide (a = b) := by rw [Bool.eq_iff_iff, beq_iff_eq, decide_eq_true_iff]
theorem ba_inj {a b : ByteArray} (h : a.toList = b.toList) : a = b := by
  rw [ByteArray.toList_eq, ByteArray.toList_eq] at h
  exact ByteArray.ext (Array.toList_inj.1 h)
theorem ba_iff (a b : ByteArray) : a.toList = b.toList ↔ a = b := ⟨ba_inj, fun h => by rw [h]⟩
theorem ba_beq (a b : ByteArray) : (a.toList == b.toList) = decide (a = b) := by
  by_cases h : a = b
  · subst h; simp
  · have : ¬ a.toList = b.toList := fun e => h (ba_inj e)
    simp [h, this]
theorem ba_nil (a : ByteArray) : a.toList = ([] : List UInt8) ↔ a.size = 0 := by
  rw [ByteArray.toList_eq, ← List.length_eq_zero_iff, Array.length_toList]
  exact Iff.rfl

/- piece scan -/
/-- The place of the first that is so, from i on. -/
def scan {α : Type} (p : α → Bool) : List α → Nat → Int × Bool
  | [], _ => (0, false)
  | x :: r, i => if p x = true then ((i : Int), true) else scan p r (i + 1)
/-- .. as the reference tells it. -/
def scanR {α : Type} (p : α → Bool) : List α → Nat → Int
  | [], _ => -1
  | x :: r, i => if p x = true then (i : Int) else scanR p r (i + 1)
theorem scan_or {α : Type} (p : α → Bool) : ∀ (l : List α) (i : Nat), (scan p l i = (scanR p l i, true) ∧ (i : Int) ≤ scanR p l i ∧ scanR p l i < (i : Int) + l.length) ∨ (scan p l i = (0, false) ∧ scanR p l i = -1)
  | [], i => .inr ⟨rfl, rfl⟩
  | x :: r, i => by
    by_cases h : p x = true
    · refine .inl ?_
      simp only [scan, scanR, if_pos h, List.length_cons]
      exact ⟨trivial, by omega, by omega⟩
    · simp only [scan, scanR, if_neg h, List.length_cons]
      rcases scan_or p r (i + 1) with ⟨h1, h2, h3⟩ | h1
      · exact .inl ⟨h1, by omega, by omega⟩
      · exact .inr h1
theorem scanR_iff {α : Type} (p : α → Bool) : ∀ (l : List α) (i : Nat), scanR p l i = -1 ↔ ∀ x ∈ l, p x = false
  | [], i => by simp [scanR]
  | x :: r, i => by
    by_cases h : p x = true
    · simp only [scanR, if_pos h]
      constructor
      · intro e; omega
      · intro e; have := e x (by simp); rw [h] at this; cases this
    · simp only [scanR, if_neg h, List.mem_cons, forall_eq_or_imp]
      rw [scanR_iff p r (i + 1)]
      simp [h]

/- piece rds -/
theorem rd_col (l : List S54) (i : Nat) (hi : i < l.length) : rd_T54 l (i : Int) = l[i] := by simp [rd_T54, List.getD, hi]
theorem rd_tab (l : List S24) (i : Nat) (hi : i < l.length) : rd_T24 l (i : Int) = l[i] := by simp [rd_T24, List.getD, hi]

/- piece few -/
/-- Is a table tried? -/
def fewC (c : S54) : Bool := decide (c.f1.size ≤ 200) && decide (c.f4.f2.size ≤ 200)
def fewB (a1 : ByteArray) (l : List S54) : Bool := decide (l.length ≤ 20) && (decide (a1.size ≤ 200) && l.all fewC)
theorem few_ev (a0 : Int) (a1 : ByteArray) (a2 a3 : Int) (l : List S54) (hl : l.length ≤ 9223372036854775807) : Ev (fun k => haulagelaw08_Few.f k a0 a1 a2 a3 l) (fewB a1 l) := by
  have hs : ∀ s : ByteArray, haulagelaw08_short.f s = some (decide (s.size ≤ 200)) := fun s => by
    unfold haulagelaw08_short.f
    congr 1
    by_cases h : s.size ≤ 200
    · rw [decide_eq_true (show (s.size : Int) ≤ 200 by omega), decide_eq_true h]
    · rw [decide_eq_false (show ¬ (s.size : Int) ≤ 200 by omega), decide_eq_false h]
  have h := down (P := fun i => Ev (fun k => haulagelaw08_Few.l0 k (i : Int) a0 a1 a2 a3 l) ((l.drop i).all fewC)) (n := l.length)
    (by rw [List.drop_length]; exact Ev.step (f := fun _ => some true) (fun k => by simp only [haulagelaw08_Few.l0]; rw [if_neg (by omega)]) (Ev.now _))
    (fun i hi ih => by
      rw [List.drop_eq_getElem_cons hi, List.all_cons]
      refine Ev.step (f := fun k => if decide (l[i].f1.size ≤ 200) = true then (if decide (l[i].f4.f2.size ≤ 200) = true then haulagelaw08_Few.l0 k ((i + 1 : Nat) : Int) a0 a1 a2 a3 l else some false) else some false) (fun k => ?_) ?_
      · simp only [haulagelaw08_Few.l0]
        rw [if_pos (by omega), if_pos (by omega), rd_col l i hi, wrap_succ _ (by omega), hs, hs, Option.bind_some, Option.bind_some]
      · unfold fewC
        by_cases h1 : l[i].f1.size ≤ 200
        · by_cases h2 : l[i].f4.f2.size ≤ 200
          · simp only [h1, h2, decide_true, if_true, Bool.true_and]
            exact ih
          · simp only [h1, h2, decide_true, decide_false, if_true, Bool.false_eq_true, if_false, Bool.and_false, Bool.false_and]
            exact Ev.now _
        · simp only [h1, decide_false, Bool.false_eq_true, if_false, Bool.false_and]
          exact Ev.now _) 0 (Nat.zero_le _)
  unfold haulagelaw08_Few.f fewB
  by_cases h1 : l.length ≤ 20
  · refine Ev.congr (fun k => by rw [if_neg (by omega), hs, Option.bind_some]) ?_
    rw [decide_eq_true h1, Bool.true_and]
    by_cases h2 : a1.size ≤ 200
    · rw [decide_eq_true h2, Bool.true_and]
      exact Ev.step (fun k => by simp only [haulagelaw08_Few.j0]; rw [if_neg (by simp)]; rfl) h
    · rw [decide_eq_false h2, Bool.false_and]
      exact Ev.step (f := fun _ => some false) (fun k => by simp only [haulagelaw08_Few.j0]; rw [if_pos (by simp)]) (Ev.now _)
  · refine Ev.congr (fun k => by rw [if_pos (by omega)]) ?_
    rw [decide_eq_false h1, Bool.false_and]
    exact Ev.step (f := fun _ => some false) (fun k => by simp only [haulagelaw08_Few.j0]; rw [if_pos (by trivial)]) (Ev.now _)
theorem fewB_iff (a1 : ByteArray) (l : List S54) : fewB a1 l = true ↔ l.length ≤ 20 ∧ a1.size ≤ 200 ∧ ∀ c ∈ l, c.f1.size ≤ 200 ∧ c.f4.f2.size ≤ 200 := by
  simp [fewB, fewC, List.all_eq_true]

/- piece fewall -/
def fewT (t : S24) : Bool := fewB t.f1 t.f4
def fewAllB (l : List S24) : Bool := decide (l.length ≤ 10) && l.all fewT
theorem fewall_ev (l : List S24) (hl : l.length ≤ 9223372036854775807) (hc : ∀ t ∈ l, t.f4.length ≤ 9223372036854775807) : Ev (fun k => haulagelaw08_FewAll.f k l) (fewAllB l) := by
  have h := down (P := fun i => Ev (fun k => haulagelaw08_FewAll.l0 k (i : Int) l) ((l.drop i).all fewT)) (n := l.length)
    (by rw [List.drop_length]; exact Ev.step (f := fun _ => some true) (fun k => by simp only [haulagelaw08_FewAll.l0]; rw [if_neg (by omega)]) (Ev.now _))
    (fun i hi ih => by
      rw [List.drop_eq_getElem_cons hi, List.all_cons]
      refine Ev.step (f := fun k => (haulagelaw08_Few.f k l[i].f0 l[i].f1 l[i].f2 l[i].f3 l[i].f4).bind fun t => if t = true then haulagelaw08_FewAll.l0 k ((i + 1 : Nat) : Int) l else some false) (fun k => ?_) ?_
      · simp only [haulagelaw08_FewAll.l0]
        rw [if_pos (by omega), if_pos (by omega), rd_tab l i hi, wrap_succ _ (by omega)]
      · refine Ev.bind (few_ev _ _ _ _ _ (hc _ (List.getElem_mem hi))) ?_
        have e0 : fewT l[i] = fewB l[i].f1 l[i].f4 := rfl
        rw [e0]
        by_cases h1 : fewB l[i].f1 l[i].f4 = true
        · rw [h1]
          exact Ev.congr (fun k => by rw [if_pos rfl]) (by rw [Bool.true_and]; exact ih)
        · rw [Bool.not_eq_true] at h1
          rw [h1]
          exact Ev.congr (f := fun _ => some false) (fun k => by rw [if_neg (by simp)]) (by rw [Bool.false_and]; exact Ev.now _)) 0 (Nat.zero_le _)
  unfold haulagelaw08_FewAll.f fewAllB
  by_cases h1 : l.length ≤ 10
  · rw [decide_eq_true h1, Bool.true_and]
    exact Ev.congr (fun k => by rw [if_neg (by omega)]; rfl) h
  · rw [decide_eq_false h1, Bool.false_and]
    exact Ev.congr (f := fun _ => some false) (fun k => by rw [if_pos (by omega)]) (Ev.now _)

/- piece lives08 -/
theorem lives_ev : Ev (fun k => haulagelaw08_lives.f k) true := Ev.of haulagelaw08_lives.mono (k := 40) (by decide +kernel)

/- piece find -/
theorem placefind_ev (nm : ByteArray) (l : List S24) (hb : l.length ≤ 9223372036854775807) : Ev (fun k => api_Table_76_f77.f k l [nm]) (scan (fun c => decide (c.f1 = nm)) l 0) := by
  have h := down (P := fun i => Ev (fun k => api_Table_76_f77.l0 k [nm] l (l.length : Int) (i : Int)) (scan (fun c => decide (c.f1 = nm)) (l.drop i) i)) (n := l.length)
    (by rw [List.drop_length]; exact Ev.step (f := fun _ => some (0, false)) (fun k => by simp only [api_Table_76_f77.l0]; rw [if_neg (by omega)]) (Ev.now _))
    (fun i hi ih => by
      rw [List.drop_eq_getElem_cons hi]
      refine Ev.step (f := fun k => if (decide (l[i].f1 = nm)) = true then some ((i : Int), true) else api_Table_76_f77.l0 k [nm] l (l.length : Int) ((i + 1 : Nat) : Int)) (fun k => ?_) ?_
      · simp only [api_Table_76_f77.l0]
        rw [if_pos (by omega), if_pos (by omega), if_pos (by omega), rd_tab l i hi, wrap_succ _ (by omega)]
        simp [schema_Find_1.f, rdOf, rd, rd_T24, ba_beq]
      · simp only [scan]
        split
        · exact Ev.now _
        · exact ih) 0 (Nat.zero_le _)
  simpa [api_Table_76_f77.f] using h

theorem find_ev (l : List S24) (nm : ByteArray) (hb : l.length ≤ 9223372036854775807) : Ev (fun k => schema_Find.f k l nm) (scan (fun c => decide (c.f1 = nm)) l 0) :=
  Ev.bind (placefind_ev nm l hb) (Ev.now _)


/- piece reffind -/
theorem rfind_l0 (nm : ByteArray) (l : List S24) (hb : l.length ≤ 9223372036854775807) : Ev (fun k => haulageref08_Find.l0 k nm (0 : Int) l) (scanR (fun c => decide (c.f1 = nm)) l 0) := by
  have h := down (P := fun i => Ev (fun k => haulageref08_Find.l0 k nm (i : Int) l) (scanR (fun c => decide (c.f1 = nm)) (l.drop i) i)) (n := l.length)
    (by rw [List.drop_length]; exact Ev.step (f := fun _ => some (-1)) (fun k => by simp only [haulageref08_Find.l0]; rw [if_neg (by omega)]) (Ev.now _))
    (fun i hi ih => by
      rw [List.drop_eq_getElem_cons hi]
      refine Ev.step (f := fun k => if (decide (l[i].f1 = nm)) = true then some (i : Int) else haulageref08_Find.l0 k nm ((i + 1 : Nat) : Int) l) (fun k => ?_) ?_
      · simp only [haulageref08_Find.l0]
        rw [if_pos (by omega), if_pos (by omega), rd_tab l i hi, wrap_succ _ (by omega)]
        simp only [ba_iff, decide_eq_true_eq]
      · simp only [scanR]
        split
        · exact Ev.now _
        · exact ih) 0 (Nat.zero_le _)
  exact h

theorem rfind_ev (l : List S24) (nm : ByteArray) (hb : l.length ≤ 9223372036854775807) : Ev (fun k => haulageref08_Find.f k l nm) (scanR (fun c => decide (c.f1 = nm)) l 0) := rfind_l0 nm l hb

/- piece byid -/
theorem placeid_ev (nm : Int) (l : List S24) (hb : l.length ≤ 9223372036854775807) : Ev (fun k => api_Table_76_f78.f k l [nm]) (scan (fun c => decide (c.f0 = nm)) l 0) := by
  have h := down (P := fun i => Ev (fun k => api_Table_76_f78.l0 k [nm] l (l.length : Int) (i : Int)) (scan (fun c => decide (c.f0 = nm)) (l.drop i) i)) (n := l.length)
    (by rw [List.drop_length]; exact Ev.step (f := fun _ => some (0, false)) (fun k => by simp only [api_Table_76_f78.l0]; rw [if_neg (by omega)]) (Ev.now _))
    (fun i hi ih => by
      rw [List.drop_eq_getElem_cons hi]
      refine Ev.step (f := fun k => if (decide (l[i].f0 = nm)) = true then some ((i : Int), true) else api_Table_76_f78.l0 k [nm] l (l.length : Int) ((i + 1 : Nat) : Int)) (fun k => ?_) ?_
      · simp only [api_Table_76_f78.l0]
        rw [if_pos (by omega), if_pos (by omega), if_pos (by omega), rd_tab l i hi, wrap_succ _ (by omega)]
        simp [schema_ById_1.f, rdOf, rd, rd_T24, ba_beq]
      · simp only [scan]
        split
        · exact Ev.now _
        · exact ih) 0 (Nat.zero_le _)
  simpa [api_Table_76_f78.f] using h

theorem byid_ev (l : List S24) (nm : Int) (hb : l.length ≤ 9223372036854775807) : Ev (fun k => schema_ById.f k l nm) (scan (fun c => decide (c.f0 = nm)) l 0) :=
  Ev.bind (placeid_ev nm l hb) (Ev.now _)

theorem rbyid_l0 (nm : Int) (l : List S24) (hb : l.length ≤ 9223372036854775807) : Ev (fun k => haulageref08_ById.l0 k nm (0 : Int) l) (scanR (fun c => decide (c.f0 = nm)) l 0) := by
  have h := down (P := fun i => Ev (fun k => haulageref08_ById.l0 k nm (i : Int) l) (scanR (fun c => decide (c.f0 = nm)) (l.drop i) i)) (n := l.length)
    (by rw [List.drop_length]; exact Ev.step (f := fun _ => some (-1)) (fun k => by simp only [haulageref08_ById.l0]; rw [if_neg (by omega)]) (Ev.now _))
    (fun i hi ih => by
      rw [List.drop_eq_getElem_cons hi]
      refine Ev.step (f := fun k => if (decide (l[i].f0 = nm)) = true then some (i : Int) else haulageref08_ById.l0 k nm ((i + 1 : Nat) : Int) l) (fun k => ?_) ?_
      · simp only [haulageref08_ById.l0]
        rw [if_pos (by omega), if_pos (by omega), rd_tab l i hi, wrap_succ _ (by omega)]
        simp only [ba_iff, decide_eq_true_eq]
      · simp only [scanR]
        split
        · exact Ev.now _
        · exact ih) 0 (Nat.zero_le _)
  exact h

theorem rbyid_ev (l : List S24) (nm : Int) (hb : l.length ≤ 9223372036854775807) : Ev (fun k => haulageref08_ById.f k l nm) (scanR (fun c => decide (c.f0 = nm)) l 0) := rbyid_l0 nm l hb

/- piece col -/
theorem placecol_ev (nm : ByteArray) (l : List S54) (hb : l.length ≤ 9223372036854775807) : Ev (fun k => api_Column_74_f80.f k l [nm]) (scan (fun c => decide (c.f1 = nm)) l 0) := by
  have h := down (P := fun i => Ev (fun k => api_Column_74_f80.l0 k [nm] l (l.length : Int) (i : Int)) (scan (fun c => decide (c.f1 = nm)) (l.drop i) i)) (n := l.length)
    (by rw [List.drop_length]; exact Ev.step (f := fun _ => some (0, false)) (fun k => by simp only [api_Column_74_f80.l0]; rw [if_neg (by omega)]) (Ev.now _))
    (fun i hi ih => by
      rw [List.drop_eq_getElem_cons hi]
      refine Ev.step (f := fun k => if (decide (l[i].f1 = nm)) = true then some ((i : Int), true) else api_Column_74_f80.l0 k [nm] l (l.length : Int) ((i + 1 : Nat) : Int)) (fun k => ?_) ?_
      · simp only [api_Column_74_f80.l0]
        rw [if_pos (by omega), if_pos (by omega), if_pos (by omega), rd_col l i hi, wrap_succ _ (by omega)]
        simp [schema_Col_1.f, rdOf, rd, rd_T24, ba_beq]
      · simp only [scan]
        split
        · exact Ev.now _
        · exact ih) 0 (Nat.zero_le _)
  simpa [api_Column_74_f80.f] using h

theorem col_ev (a0 : Int) (a1 : ByteArray) (a2 a3 : Int) (l : List S54) (nm : ByteArray) (hb : l.length ≤ 9223372036854775807) : Ev (fun k => schema_Col.f k a0 a1 a2 a3 l nm) (scan (fun c => decide (c.f1 = nm)) l 0) :=
  Ev.bind (placecol_ev nm l hb) (Ev.now _)


/- piece refcol -/
theorem rcol_l0 (a0 : Int) (a1 : ByteArray) (a2 a3 : Int) (nm : ByteArray) (l : List S54) (hb : l.length ≤ 9223372036854775807) : Ev (fun k => haulageref08_Col.l0 k nm (0 : Int) a0 a1 a2 a3 l) (scanR (fun c => decide (c.f1 = nm)) l 0) := by
  have h := down (P := fun i => Ev (fun k => haulageref08_Col.l0 k nm (i : Int) a0 a1 a2 a3 l) (scanR (fun c => decide (c.f1 = nm)) (l.drop i) i)) (n := l.length)
    (by rw [List.drop_length]; exact Ev.step (f := fun _ => some (-1)) (fun k => by simp only [haulageref08_Col.l0]; rw [if_neg (by omega)]) (Ev.now _))
    (fun i hi ih => by
      rw [List.drop_eq_getElem_cons hi]
      refine Ev.step (f := fun k => if (decide (l[i].f1 = nm)) = true then some (i : Int) else haulageref08_Col.l0 k nm ((i + 1 : Nat) : Int) a0 a1 a2 a3 l) (fun k => ?_) ?_
      · simp only [haulageref08_Col.l0]
        rw [if_pos (by omega), if_pos (by omega), rd_col l i hi, wrap_succ _ (by omega)]
        simp only [ba_iff, decide_eq_true_eq]
      · simp only [scanR]
        split
        · exact Ev.now _
        · exact ih) 0 (Nat.zero_le _)
  exact h

theorem rcol_ev (a0 : Int) (a1 : ByteArray) (a2 a3 : Int) (l : List S54) (nm : ByteArray) (hb : l.length ≤ 9223372036854775807) : Ev (fun k => haulageref08_Col.f k a0 a1 a2 a3 l nm) (scanR (fun c => decide (c.f1 = nm)) l 0) := rcol_l0 a0 a1 a2 a3 nm l hb

/- piece key -/
theorem placekey_ev (nm : S24) (l : List S54) (hb : l.length ≤ 9223372036854775807) : Ev (fun k => api_Column_74_f75.f k l [nm]) (scan (fun c => decide (c.f0 = nm.f2)) l 0) := by
  have h := down (P := fun i => Ev (fun k => api_Column_74_f75.l0 k [nm] l (l.length : Int) (i : Int)) (scan (fun c => decide (c.f0 = nm.f2)) (l.drop i) i)) (n := l.length)
    (by rw [List.drop_length]; exact Ev.step (f := fun _ => some (0, false)) (fun k => by simp only [api_Column_74_f75.l0]; rw [if_neg (by omega)]) (Ev.now _))
    (fun i hi ih => by
      rw [List.drop_eq_getElem_cons hi]
      refine Ev.step (f := fun k => if (decide (l[i].f0 = nm.f2)) = true then some ((i : Int), true) else api_Column_74_f75.l0 k [nm] l (l.length : Int) ((i + 1 : Nat) : Int)) (fun k => ?_) ?_
      · simp only [api_Column_74_f75.l0]
        rw [if_pos (by omega), if_pos (by omega), if_pos (by omega), rd_col l i hi, wrap_succ _ (by omega)]
        simp [schema_Key_1.f, rdOf, rd, rd_T24, ba_beq]
      · simp only [scan]
        split
        · exact Ev.now _
        · exact ih) 0 (Nat.zero_le _)
  simpa [api_Column_74_f75.f] using h

theorem key_ev (a0 : Int) (a1 : ByteArray) (a2 a3 : Int) (l : List S54) (hb : l.length ≤ 9223372036854775807) : Ev (fun k => schema_Key.f k a0 a1 a2 a3 l) (scan (fun c => decide (c.f0 = a2)) l 0) :=
  Ev.bind (placekey_ev ⟨a0, a1, a2, a3, l⟩ l hb) (Ev.now _)


/- piece refkey -/
theorem rkey_l0 (a0 : Int) (a1 : ByteArray) (a2 a3 : Int) (l : List S54) (hb : l.length ≤ 9223372036854775807) : Ev (fun k => haulageref08_Key.l0 k (0 : Int) a0 a1 a2 a3 l) (scanR (fun c => decide (c.f0 = a2)) l 0) := by
  have h := down (P := fun i => Ev (fun k => haulageref08_Key.l0 k (i : Int) a0 a1 a2 a3 l) (scanR (fun c => decide (c.f0 = a2)) (l.drop i) i)) (n := l.length)
    (by rw [List.drop_length]; exact Ev.step (f := fun _ => some (-1)) (fun k => by simp only [haulageref08_Key.l0]; rw [if_neg (by omega)]) (Ev.now _))
    (fun i hi ih => by
      rw [List.drop_eq_getElem_cons hi]
      refine Ev.step (f := fun k => if (decide (l[i].f0 = a2)) = true then some (i : Int) else haulageref08_Key.l0 k ((i + 1 : Nat) : Int) a0 a1 a2 a3 l) (fun k => ?_) ?_
      · simp only [haulageref08_Key.l0]
        rw [if_pos (by omega), if_pos (by omega), rd_col l i hi, wrap_succ _ (by omega)]
        simp only [ba_iff, decide_eq_true_eq]
      · simp only [scanR]
        split
        · exact Ev.now _
        · exact ih) 0 (Nat.zero_le _)
  exact h

theorem rkey_ev (a0 : Int) (a1 : ByteArray) (a2 a3 : Int) (l : List S54) (hb : l.length ≤ 9223372036854775807) : Ev (fun k => haulageref08_Key.f k a0 a1 a2 a3 l) (scanR (fun c => decide (c.f0 = a2)) l 0) := rkey_l0 a0 a1 a2 a3 l hb

/- piece same08 -/
/-- Are two lists alike, element by element? -/
def same2 {α : Type} (q : α → α → Bool) : List α → List α → Bool
  | [], _ => true
  | _ :: _, [] => false
  | x :: r, y :: s => if q x y = true then same2 q r s else false
theorem same2_refl {α : Type} (q : α → α → Bool) : ∀ l : List α, (∀ x ∈ l, q x x = true) → same2 q l l = true
  | [], _ => rfl
  | x :: r, h => by
    simp only [same2]
    rw [if_pos (h x (by simp))]
    exact same2_refl q r (fun y hy => h y (by simp [hy]))
def colEq (x y : S54) : Bool := x.f0 == y.f0 && (x.f1.toList == y.f1.toList && ((x.f2.f0 == y.f2.f0 && (x.f2.f1 == y.f2.f1)) && (x.f3 == y.f3 && ((x.f4.f0 == y.f4.f0 && (x.f4.f1 == y.f4.f1 && (x.f4.f2.toList == y.f4.f2.toList)))))))
theorem colEq_refl (x : S54) : colEq x x = true := by simp [colEq]
def colsEq (l m : List S54) : Bool := decide (l.length = m.length) && same2 colEq l m
theorem colsEq_refl (l : List S54) : colsEq l l = true := by
  unfold colsEq
  rw [same2_refl _ _ (fun x _ => colEq_refl x)]
  simp
theorem alikecol_ev (l m : List S54) (hb : l.length ≤ 9223372036854775807) : Ev (fun k => api_Column_81_f82.f k l m) (colsEq l m) := by
  unfold api_Column_81_f82.f colsEq
  by_cases hl : l.length = m.length
  · refine Ev.congr (fun k => by rw [if_pos (by omega)]) ?_
    rw [decide_eq_true hl, Bool.true_and]
    have h := down (P := fun i => Ev (fun k => api_Column_81_f82.l0 k l m (l.length : Int) (i : Int)) (same2 colEq (l.drop i) (m.drop i))) (n := l.length)
      (by rw [List.drop_length]; exact Ev.step (f := fun _ => some true) (fun k => by simp only [api_Column_81_f82.l0]; rw [if_neg (by omega)]) (Ev.now _))
      (fun i hi ih => by
        rw [List.drop_eq_getElem_cons hi, List.drop_eq_getElem_cons (show i < m.length by omega)]
        refine Ev.step (f := fun k => if colEq l[i] m[i] = true then api_Column_81_f82.l0 k l m (l.length : Int) ((i + 1 : Nat) : Int) else some false) (fun k => ?_) ?_
        · simp only [api_Column_81_f82.l0]
          rw [if_pos (by omega), if_pos (by omega), if_pos (by omega), if_pos (by omega), rd_col l i hi, rd_col m i (by omega), wrap_succ _ (by omega)]
          rfl
        · simp only [same2]
          split
          · exact ih
          · exact Ev.now _) 0 (Nat.zero_le _)
    exact h
  · rw [decide_eq_false hl, Bool.false_and]
    exact Ev.congr (f := fun _ => some false) (fun k => by rw [if_neg (by omega)]) (Ev.now _)
theorem rsamecols_ev (l m : List S54) (hb : l.length ≤ 9223372036854775807) : Ev (fun k => haulageref08_SameCols.f k l m) (colsEq l m) := by
  unfold haulageref08_SameCols.f colsEq
  by_cases hl : l.length = m.length
  · refine Ev.congr (fun k => by rw [if_pos (by omega)]) ?_
    rw [decide_eq_true hl, Bool.true_and]
    have h := down (P := fun i => Ev (fun k => haulageref08_SameCols.l0 k l m (i : Int)) (same2 colEq (l.drop i) (m.drop i))) (n := l.length)
      (by rw [List.drop_length]; exact Ev.step (f := fun _ => some true) (fun k => by simp only [haulageref08_SameCols.l0]; rw [if_neg (by omega)]) (Ev.now _))
      (fun i hi ih => by
        rw [List.drop_eq_getElem_cons hi, List.drop_eq_getElem_cons (show i < m.length by omega)]
        refine Ev.step (f := fun k => if (!colEq l[i] m[i]) = true then some false else haulageref08_SameCols.l0 k l m ((i + 1 : Nat) : Int)) (fun k => ?_) ?_
        · simp only [haulageref08_SameCols.l0]
          rw [if_pos (by omega), if_pos (by omega), if_pos (by omega), rd_col l i hi, rd_col m i (by omega), wrap_succ _ (by omega)]
          simp only [colEq, Bool.not_and]
        · simp only [same2]
          by_cases h1 : colEq l[i] m[i] = true
          · rw [if_pos h1]
            exact Ev.congr (fun k => by rw [if_neg (by simp [h1])]) ih
          · rw [if_neg h1]
            exact Ev.congr (f := fun _ => some false) (fun k => by rw [if_pos (by simpa using h1)]) (Ev.now _)) 0 (Nat.zero_le _)
    exact h
  · rw [decide_eq_false hl, Bool.false_and]
    exact Ev.congr (f := fun _ => some false) (fun k => by rw [if_neg (by omega)]) (Ev.now _)
def tabEq (x y : S24) : Bool := if x.f0 = y.f0 ∧ x.f1 = y.f1 ∧ x.f2 = y.f2 ∧ x.f3 = y.f3 then colsEq x.f4 y.f4 else false
theorem tabEq_refl (x : S24) : tabEq x x = true := by
  unfold tabEq
  rw [if_pos ⟨rfl, rfl, rfl, rfl⟩]
  exact colsEq_refl _
theorem sametable_ev (x y : S24) (hb : x.f4.length ≤ 9223372036854775807) : Ev (fun k => schema_SameTable.f k x.f0 x.f1 x.f2 x.f3 x.f4 y.f0 y.f1 y.f2 y.f3 y.f4) (tabEq x y) := by
  unfold schema_SameTable.f tabEq
  have hj : ∀ b : Bool, b = true → Ev (fun k => schema_SameTable.j0 k b x.f0 x.f1 x.f2 x.f3 x.f4 y.f0 y.f1 y.f2 y.f3 y.f4) false := fun b hb => Ev.step (f := fun _ => some false) (fun k => by simp only [schema_SameTable.j0]; rw [if_pos hb]) (Ev.now _)
  by_cases h0 : x.f0 = y.f0
  · by_cases h1 : x.f1 = y.f1
    · by_cases h2 : x.f2 = y.f2
      · by_cases h3 : x.f3 = y.f3
        · rw [if_pos ⟨h0, h1, h2, h3⟩]
          refine Ev.congr (fun k => by rw [if_pos h0, if_pos (by rw [h1]), if_pos h2]) ?_
          exact Ev.step (fun k => by simp only [schema_SameTable.j0]; rw [if_neg (by simp [h3])]) (Ev.bind (alikecol_ev _ _ hb) (Ev.now _))
        · rw [if_neg (fun h => h3 h.2.2.2)]
          exact Ev.congr (fun k => by rw [if_pos h0, if_pos (by rw [h1]), if_pos h2]) (hj _ (by simp [h3]))
      · rw [if_neg (fun h => h2 h.2.2.1)]
        exact Ev.congr (fun k => by rw [if_pos h0, if_pos (by rw [h1]), if_neg h2]) (hj _ rfl)
    · rw [if_neg (fun h => h1 h.2.1)]
      exact Ev.congr (fun k => by rw [if_pos h0, if_neg (fun e => h1 (ba_inj e))]) (hj _ rfl)
  · rw [if_neg (fun h => h0 h.1)]
    exact Ev.congr (fun k => by rw [if_neg h0]) (hj _ rfl)
theorem rsametable_ev (x y : S24) (hb : x.f4.length ≤ 9223372036854775807) : Ev (fun k => haulageref08_SameTable.f k x.f0 x.f1 x.f2 x.f3 x.f4 y.f0 y.f1 y.f2 y.f3 y.f4) (tabEq x y) := by
  unfold haulageref08_SameTable.f tabEq
  by_cases h0 : x.f0 = y.f0
  · by_cases h1 : x.f1 = y.f1
    · by_cases h2 : x.f2 = y.f2
      · by_cases h3 : x.f3 = y.f3
        · rw [if_pos ⟨h0, h1, h2, h3⟩]
          exact Ev.congr (fun k => by rw [if_pos h0, if_pos (by rw [h1]), if_pos h2, if_pos h3]) (Ev.bind (rsamecols_ev _ _ hb) (Ev.now _))
        · rw [if_neg (fun h => h3 h.2.2.2)]
          exact Ev.congr (f := fun _ => some false) (fun k => by rw [if_pos h0, if_pos (by rw [h1]), if_pos h2, if_neg h3]) (Ev.now _)
      · rw [if_neg (fun h => h2 h.2.2.1)]
        exact Ev.congr (f := fun _ => some false) (fun k => by rw [if_pos h0, if_pos (by rw [h1]), if_neg h2]) (Ev.now _)
    · rw [if_neg (fun h => h1 h.2.1)]
      exact Ev.congr (f := fun _ => some false) (fun k => by rw [if_pos h0, if_neg (fun e => h1 (ba_inj e))]) (Ev.now _)
  · rw [if_neg (fun h => h0 h.1)]
    exact Ev.congr (f := fun _ => some false) (fun k => by rw [if_neg h0]) (Ev.now _)
def catEq (l m : List S24) : Bool := decide (l.length = m.length) && same2 tabEq l m
theorem catEq_refl (l : List S24) : catEq l l = true := by
  unfold catEq
  rw [same2_refl _ _ (fun x _ => tabEq_refl x)]
  simp
theorem same_ev (l m : List S24) (hb : l.length ≤ 9223372036854775807) (hc : ∀ t ∈ l, t.f4.length ≤ 9223372036854775807) : Ev (fun k => schema_Same.f k l m) (catEq l m) := by
  unfold schema_Same.f
  refine Ev.bind (a := catEq l m) ?_ (Ev.now _)
  unfold api_Table_79_f49.f catEq
  by_cases hl : l.length = m.length
  · refine Ev.congr (fun k => by rw [if_pos (by omega)]) ?_
    rw [decide_eq_true hl, Bool.true_and]
    have h := down (P := fun i => Ev (fun k => api_Table_79_f49.l0 k l m (l.length : Int) (i : Int)) (same2 tabEq (l.drop i) (m.drop i))) (n := l.length)
      (by rw [List.drop_length]; exact Ev.step (f := fun _ => some true) (fun k => by simp only [api_Table_79_f49.l0]; rw [if_neg (by omega)]) (Ev.now _))
      (fun i hi ih => by
        rw [List.drop_eq_getElem_cons hi, List.drop_eq_getElem_cons (show i < m.length by omega)]
        refine Ev.step (f := fun k => (schema_SameTable.f k l[i].f0 l[i].f1 l[i].f2 l[i].f3 l[i].f4 m[i].f0 m[i].f1 m[i].f2 m[i].f3 m[i].f4).bind fun t => if t = true then api_Table_79_f49.l0 k l m (l.length : Int) ((i + 1 : Nat) : Int) else some false) (fun k => ?_) ?_
        · simp only [api_Table_79_f49.l0]
          rw [if_pos (by omega), if_pos (by omega), if_pos (by omega), if_pos (by omega), rd_tab l i hi, rd_tab m i (by omega), wrap_succ _ (by omega)]
        · refine Ev.bind (sametable_ev _ _ (hc _ (List.getElem_mem hi))) ?_
          simp only [same2]
          split
          · exact ih
          · exact Ev.now _) 0 (Nat.zero_le _)
    exact h
  · rw [decide_eq_false hl, Bool.false_and]
    exact Ev.congr (f := fun _ => some false) (fun k => by rw [if_neg (by omega)]) (Ev.now _)
theorem rsame_ev (l m : List S24) (hb : l.length ≤ 9223372036854775807) (hc : ∀ t ∈ l, t.f4.length ≤ 9223372036854775807) : Ev (fun k => haulageref08_Same.f k l m) (catEq l m) := by
  unfold haulageref08_Same.f catEq
  by_cases hl : l.length = m.length
  · refine Ev.congr (fun k => by rw [if_pos (by omega)]) ?_
    rw [decide_eq_true hl, Bool.true_and]
    have h := down (P := fun i => Ev (fun k => haulageref08_Same.l0 k (i : Int) l m) (same2 tabEq (l.drop i) (m.drop i))) (n := l.length)
      (by rw [List.drop_length]; exact Ev.step (f := fun _ => some true) (fun k => by simp only [haulageref08_Same.l0]; rw [if_neg (by omega)]) (Ev.now _))
      (fun i hi ih => by
        rw [List.drop_eq_getElem_cons hi, List.drop_eq_getElem_cons (show i < m.length by omega)]
        refine Ev.step (f := fun k => (haulageref08_SameTable.f k l[i].f0 l[i].f1 l[i].f2 l[i].f3 l[i].f4 m[i].f0 m[i].f1 m[i].f2 m[i].f3 m[i].f4).bind fun t => if t = true then haulageref08_Same.l0 k ((i + 1 : Nat) : Int) l m else some false) (fun k => ?_) ?_
        · simp only [haulageref08_Same.l0]
          rw [if_pos (by omega), if_pos (by omega), if_pos (by omega), rd_tab l i hi, rd_tab m i (by omega), wrap_succ _ (by omega)]
        · refine Ev.bind (rsametable_ev _ _ (hc _ (List.getElem_mem hi))) ?_
          simp only [same2]
          split
          · exact ih
          · exact Ev.now _) 0 (Nat.zero_le _)
    exact h
  · rw [decide_eq_false hl, Bool.false_and]
    exact Ev.congr (f := fun _ => some false) (fun k => by rw [if_neg (by omega)]) (Ev.now _)

theorem found_scan {α : Type} (p : α → Bool) (l : List α) : haulagelaw08_found.f (scan p l 0).1 (scan p l 0).2 (scanR p l 0) = some true := by
  unfold haulagelaw08_found.f
  rcases scan_or p l 0 with ⟨h1, h2, h3⟩ | ⟨h1, h2⟩
  · rw [h1]
    simp only
    rw [decide_eq_true (show scanR p l 0 ≥ 0 by omega)]
    simp
  · rw [h1, h2]
    decide
theorem finds_l0 (nm : ByteArray) (l m : List S24) (hl : l.length ≤ 9223372036854775807) (hc : ∀ t ∈ l, t.f4.length ≤ 9223372036854775807) : Ev (fun k => haulagelaw08_SchemaFinds.l0 k nm 0 l m) true := by
  have h := down (P := fun i => Ev (fun k => haulagelaw08_SchemaFinds.l0 k nm (i : Int) l m) true) (n := l.length)
    (Ev.step (f := fun _ => some true) (fun k => by simp only [haulagelaw08_SchemaFinds.l0]; rw [if_neg (by omega)]) (Ev.now _))
    (fun i hi ih => by
      have hb := hc _ (List.getElem_mem hi)
      refine Ev.step (f := fun k => (schema_Col.f k l[i].f0 l[i].f1 l[i].f2 l[i].f3 l[i].f4 nm).bind fun b1 => (schema_Key.f k l[i].f0 l[i].f1 l[i].f2 l[i].f3 l[i].f4).bind fun b2 => (haulageref08_Col.f k l[i].f0 l[i].f1 l[i].f2 l[i].f3 l[i].f4 nm).bind fun t => (haulagelaw08_found.f b1.1 b1.2 t).bind fun t5 => if t5 = true then ((haulageref08_Key.f k l[i].f0 l[i].f1 l[i].f2 l[i].f3 l[i].f4).bind fun t6 => (haulagelaw08_found.f b2.1 b2.2 t6).bind fun t7 => haulagelaw08_SchemaFinds.j3 k nm (i : Int) (!t7) l m l[i].f0 l[i].f1 l[i].f2 l[i].f3 l[i].f4) else haulagelaw08_SchemaFinds.j3 k nm (i : Int) true l m l[i].f0 l[i].f1 l[i].f2 l[i].f3 l[i].f4) (fun k => ?_) ?_
      · simp only [haulagelaw08_SchemaFinds.l0]
        rw [if_pos (by omega), if_pos (by omega), rd_tab l i hi]
      · refine Ev.bind (col_ev _ _ _ _ _ _ hb) ?_
        refine Ev.bind (key_ev _ _ _ _ _ hb) ?_
        refine Ev.bind (rcol_ev _ _ _ _ _ _ hb) ?_
        refine Ev.congr (fun k => by rw [found_scan, Option.bind_some, if_pos rfl]) ?_
        refine Ev.bind (rkey_ev _ _ _ _ _ hb) ?_
        refine Ev.congr (fun k => by rw [found_scan, Option.bind_some]) ?_
        by_cases h1 : i < m.length
        · refine Ev.step (f := fun k => (schema_SameTable.f k l[i].f0 l[i].f1 l[i].f2 l[i].f3 l[i].f4 m[i].f0 m[i].f1 m[i].f2 m[i].f3 m[i].f4).bind fun t => (haulageref08_SameTable.f k l[i].f0 l[i].f1 l[i].f2 l[i].f3 l[i].f4 m[i].f0 m[i].f1 m[i].f2 m[i].f3 m[i].f4).bind fun t2 => if (t != t2) = true then some false else haulagelaw08_SchemaFinds.l0 k nm ((i + 1 : Nat) : Int) l m) (fun k => ?_) ?_
          · simp only [haulagelaw08_SchemaFinds.j3]
            rw [if_neg (by simp), if_pos (by omega), if_pos (by omega), rd_tab m i h1, wrap_succ _ (by omega)]
          · refine Ev.bind (sametable_ev _ _ hb) ?_
            refine Ev.bind (rsametable_ev _ _ hb) ?_
            exact Ev.congr (fun k => by rw [if_neg (by simp)]) ih
        · refine Ev.step (f := fun k => haulagelaw08_SchemaFinds.l0 k nm ((i + 1 : Nat) : Int) l m) (fun k => ?_) ih
          simp only [haulagelaw08_SchemaFinds.j3]
          rw [if_neg (by simp), if_neg (by omega), wrap_succ _ (by omega)]) 0 (Nat.zero_le _)
  exact h
theorem haulagelaw08_SchemaFinds : ∀ (x0 : S46) (x1 : S46) (a2 : ByteArray) (a3 : Int), Ok46 x0 → Ok46 x1 → a2.size ≤ 140737488351232 → (Lit.int .i64 a3).wf = true → ∃ k, haulagelaw08_SchemaFinds.f k x0.f0 x1.f0 a2 a3 = some true := by
  intro x0 x1 a2 a3 h0 h1 _ _
  have hm : maxLen = 9223372036854775807 := by decide
  unfold Ok46 at h0 h1
  rw [hm] at h0 h1
  have hc0 : ∀ t ∈ x0.f0, t.f4.length ≤ 9223372036854775807 := fun t ht => by
    have := h0.2 t ht
    unfold Ok24 at this
    rw [hm] at this
    exact this.2.2.2.2.1
  have hc1 : ∀ t ∈ x1.f0, t.f4.length ≤ 9223372036854775807 := fun t ht => by
    have := h1.2 t ht
    unfold Ok24 at this
    rw [hm] at this
    exact this.2.2.2.2.1
  generalize x0.f0 = l at h0 hc0 ⊢
  generalize x1.f0 = m at h1 hc1 ⊢
  refine Ev.rounds (r := true) ?_
  have hj : Ev (fun k => haulagelaw08_SchemaFinds.j0 k a2 a3 false l m) true := by
    refine Ev.step (f := fun k => _) (fun k => by simp only [haulagelaw08_SchemaFinds.j0]; rw [if_neg (by simp)]) ?_
    refine Ev.bind (find_ev _ _ h0.1) ?_
    refine Ev.bind (byid_ev _ _ h0.1) ?_
    refine Ev.bind (rfind_ev _ _ h0.1) ?_
    refine Ev.congr (fun k => by rw [found_scan, Option.bind_some, if_pos rfl]) ?_
    refine Ev.bind (rbyid_ev _ _ h0.1) ?_
    refine Ev.congr (fun k => by rw [found_scan, Option.bind_some, if_pos rfl]) ?_
    refine Ev.bind (same_ev l m h0.1 hc0) ?_
    refine Ev.bind (rsame_ev l m h0.1 hc0) ?_
    refine Ev.congr (fun k => by rw [if_neg (by simp)]) ?_
    refine Ev.bind (same_ev l l h0.1 hc0) ?_
    rw [catEq_refl]
    exact Ev.step (fun k => by simp only [haulagelaw08_SchemaFinds.j1]; rw [if_neg (by simp)]) (finds_l0 a2 l m h0.1 hc0)
  have ht : Ev (fun k => haulagelaw08_SchemaFinds.j0 k a2 a3 true l m) true := Ev.step (f := fun _ => some true) (fun k => by simp only [haulagelaw08_SchemaFinds.j0]; rw [if_pos (by trivial)]) (Ev.now _)
  unfold haulagelaw08_SchemaFinds.f
  refine Ev.bind lives_ev ?_
  refine Ev.congr (fun k => by rw [if_pos rfl]) ?_
  refine Ev.bind (fewall_ev l h0.1 hc0) ?_
  by_cases e1 : fewAllB l = true
  · refine Ev.congr (fun k => by rw [if_pos e1]) ?_
    refine Ev.bind (fewall_ev m h1.1 hc1) ?_
    by_cases e2 : fewAllB m = true
    · by_cases e3 : (a2.size : Int) ≤ 200
      · exact Ev.congr (fun k => by rw [if_pos e2]; simp only [haulagelaw08_short.f, Option.bind_some]; rw [decide_eq_true e3]; rfl) hj
      · exact Ev.congr (fun k => by rw [if_pos e2]; simp only [haulagelaw08_short.f, Option.bind_some]; rw [decide_eq_false e3]; rfl) ht
    · exact Ev.congr (fun k => by rw [if_neg e2]) ht
  · exact Ev.congr (fun k => by rw [if_neg e1]) ht

end Go.Proofs.YtdeophpjammbpaaDoor.Pure

/- A machine of lists and numbers: what it carries out, the program carries out; no condition but those that each theorem states. -/
import Derived.Laws.Append
import Derived.ChangeMaps4
import Derived.IntWalk
import Derived.Test.YtgefikclhfjcgaaDoorEv0
namespace Go.Proofs.YtgefikclhfjcgaaDoorEv
open Go Go.RowKit
set_option linter.unusedVariables false
set_option linter.unusedSectionVars false
set_option linter.unusedSimpArgs false

section
variable {I : Nat → Type} {P : Program} {T : Ty I} {w w' : World} {E E' : Nat → Nat} {φ : List Nat} {fr fr1 : Fr I} {H : Hp I} {R : Type} {out : R} {K : Kont I R} {o : Oper} {tm : Array Value} {D : Nat → Prop}

theorem flatten_get {α : Type} (z : List α) (s : Nat) (hs : z.length = s) : ∀ (n j : Nat), j < n * s → (List.replicate n z).flatten[j]? = z[j % s]?
  | 0, j, h => by simp at h
  | n + 1, j, h => by
    rw [List.replicate_succ, List.flatten_cons]
    rcases Nat.lt_or_ge j s with q | q
    · rw [List.getElem?_append_left (by omega), Nat.mod_eq_of_lt q]
    · rw [List.getElem?_append_right (by omega), hs, flatten_get z s hs n (j - s) (by rw [Nat.add_mul] at h; omega)]
      congr 1
      rw [← Nat.mod_eq_sub_mod q]

section
variable {a : Act} (hs : Sim T φ E w fr H a.tmps) (hok : TyOK P T)
include hs hok

theorem ok_buildSlice {t : TypeId} {n : Nat} {ps : Array (Nat × Operand)} (ho : o.op = .buildSlice t n ps)
    (h : (match Go.Proofs.YtgefikclhfjcgaaDoorEv.buildSlice P T t n (ps.toList.map fun p => (p.1, ev T fr p.2)) with | some c => K (.c c) fr H | none => none) = some out) : Sound P T K out φ E w fr H a o := by
  split at h
  · rename_i c hb
    unfold Go.Proofs.YtgefikclhfjcgaaDoorEv.buildSlice at hb
    split at hb
    · rename_i q1 e hu
      split at hb
      · rename_i q2 q3 sz z hsz hz
        split at hb
        · rename_i hc
          obtain ⟨hc1, hc2, hc3⟩ := hc
          obtain ⟨i, hi, hisz⟩ := cellsOf_info hsz
          have hTs : T.sz e = sz := by rw [hok.sz, hi, ← hisz]; rfl
          obtain ⟨i', v, h1, h2, h3⟩ := zeroOf_some hz
          rw [hi] at h1; cases h1
          obtain ⟨z1, z2⟩ := zero_cells (T := T) (w := w) (E := E) (t := e) h3
          cases hf : Go.Proofs.YtgefikclhfjcgaaDoorEv.fill (fun i => some (i * sz, sz)) (List.replicate n z).flatten (ps.toList.map fun p => (p.1, ev T fr p.2)) with
          | none => rw [hf] at hb; cases hb
          | some cs =>
            rw [hf] at hb
            simp only [Option.bind_some] at hb
            have hsz0 : 0 < sz := Nat.pos_of_ne_zero (fun q => by rw [q] at hc2; simp at hc2)
            let zs : Array Value := (Array.range (n * sz)).map (v.cells[· % v.cells.size]!)
            have hzs : Cells T φ w E zs (List.replicate n z).flatten := by
              refine ⟨by simp [zs, hc3], fun j c hj => ?_⟩
              have hjl : j < n * sz := by have := (List.getElem?_eq_some_iff.1 hj).1; simpa [hc3] using this
              rw [flatten_get z sz hc3 n j hjl] at hj
              obtain ⟨u, hu2, hr⟩ := z2 _ c hj
              refine ⟨u, ?_, hr.toT, hr.tok⟩
              have hlt : j % v.cells.size < v.cells.size := Nat.mod_lt _ (by rw [z1, hc3]; exact hsz0)
              have : v.cells[j % v.cells.size]? = some u := by rw [z1, hc3]; exact hu2
              simp only [zs, Array.getElem?_map, Array.getElem?_range, hjl, if_true, Option.map_some]
              rw [getElem!_def, this]
            obtain ⟨arr', k1, k2⟩ := fill_run (H := H) (T := T) (φ := φ) (w := w) (E := E) _ (ps.toList.map fun p => (p.1, a.eval p.2)) _ cs zs hf hzs (by simp) (fun j p v hp hv => by
              simp only [List.getElem?_map, Option.map_eq_some_iff] at hp hv
              obtain ⟨p0, hp0, rfl⟩ := hp
              obtain ⟨v0, hv0, rfl⟩ := hv
              rw [hp0] at hv0; cases hv0
              exact ev_rep hs a.defers p0.2)
            have hcl : cs.length = n * sz := by
              have : ∀ (ps : List (Nat × X I)) (cs cs' : List (C I)), Go.Proofs.YtgefikclhfjcgaaDoorEv.fill (fun i => some (i * sz, sz)) cs ps = some cs' → cs'.length = cs.length := by
                intro ps
                induction ps with
                | nil => intro cs cs' h; cases h; rfl
                | cons p ps ih =>
                  intro cs cs' h
                  obtain ⟨i, x⟩ := p
                  simp only [Go.Proofs.YtgefikclhfjcgaaDoorEv.fill] at h
                  split at h
                  · rename_i q4 q5 off m ys hp hy
                    split at h
                    · cases hsp : splice cs off (ys.map C.weak) with
                      | none => rw [hsp] at h; cases h
                      | some cs2 => rw [hsp] at h; exact (ih cs2 cs' h).trans (splice_get hsp).2.1
                    · cases h
                  · cases h
              rw [this _ _ _ hf]; simp [hc3]
            have hrun : (execOp a.eval o).run P w = .ok (.value (.slice (some ⟨w.heap.size, 0, none⟩) n n)) (w.alloc (.cells arr' e)) := by
              unfold execOp; rw [ho]
              have hle : ¬ (n * i.size > 2 ^ 24) := by rw [hisz]; omega
              have hne : ¬ (n * i.size = 0) := by rw [hisz]; omega
              have hmap : (ps.map fun (i, x) => (i, a.eval x)) = ps.map fun p => (p.1, a.eval p.2) := rfl
              have hk1 : Instr.fill (fun i_1 => some (i_1 * i.size, i.size)) ((Array.range (n * i.size)).map (v.cells[· % v.cells.size]!)) (ps.map fun p => (p.1, a.eval p.2)).toList = some arr' := by
                rw [Array.toList_map, hisz]; exact k1
              simp only [Instr.buildSlice, Sem.run_bind, run_underlying hu, Result.andThen_ok, sizeOf, typeInfo, run_program, hi, Sem.run_pure, hle, if_false, hne, run_zeroValue hi h2, hmap, hk1, newRow, run_newObj, World.alloc_eq]
            have hel : ∀ l, elems T e n cs = some l → ∀ c', (c' = .acc e l ∨ ∃ x, c' = .lit e x ∧ l = [x]) → K (.c c') fr H = some out → Sound P T K out φ E w fr H a o := by
              intro l hl c' hc' hk
              obtain ⟨e1, e2⟩ := elems_some hok hl
              have hr := Res.freshAcc (S := wrOf T fr o) hok hs hs (fun _ _ q => q) (w0 := w) ⟨rfl, rfl, rfl, rfl⟩ arr' e l n (by omega) (by rw [hTs, k2.1, hcl]; exact Nat.le_refl _) (fun k x hk j c hc => by
                obtain ⟨c0, hc0, hd, hc2'⟩ := (e2 k x hk).2 j c hc
                obtain ⟨u, hu2, hru, _⟩ := k2.2 _ c0 hc0
                exact ⟨u, hu2, hc2' w E u (hru.toC hd)⟩) c' hc'
              rw [e1] at hr
              exact ⟨_, _, _, _, _, _, _, hk, .inl hrun, hr⟩
            split at hb
            · rename_i x hx
              cases hb
              exact hel _ hx _ (.inr ⟨x, rfl, rfl⟩) h
            · rename_i l hna hl
              cases hb
              exact hel _ hl _ (.inl rfl) h
            · cases hb
        · cases hb
      · cases hb
    · cases hb
  · cases h

omit hs hok in
theorem run_append_in {t u ty e : TypeId} {i : TypeInfo} {d : TypeDesc} (ht : P.underlying t = some (.slice e)) (hu : P.underlying u = some d) (hd : (∃ e2, d = .slice e2) ∨ d = .string) (hi : P.info? e = some i)
    {ad : Addr} {sLen sCap n : Nat} {v2 : Value} {news : Array Value} (hlen : (Builtin.lenOf v2).run P w = .ok n w) (hnew : (Builtin.firstCells i.size n v2).run P w = .ok news w) (hle : sLen + n ≤ sCap)
    (hst : (storeCells (ad.add (sLen * i.size)) news.toList).run P w = .ok () w') :
    (Builtin.append_ #[t, u] ty #[.slice (some ad) sLen sCap, v2]).run P w = .ok (.slice (some ad) (sLen + n) sCap) w' := by
  rcases hd with ⟨e2, rfl⟩ | rfl <;>
    simp [Builtin.append_, run_underlying ht, run_underlying hu, sizeOf, typeInfo, hi, hlen, hnew, hle, hst]

omit hs hok in
theorem run_append_no {t u ty e : TypeId} {i : TypeInfo} {d : TypeDesc} (ht : P.underlying t = some (.slice e)) (hu : P.underlying u = some d) (hd : (∃ e2, d = .slice e2) ∨ d = .string) (hi : P.info? e = some i)
    {v2 : Value} {news : Array Value} (hlen : (Builtin.lenOf v2).run P w = .ok 0 w) (hnew : (Builtin.firstCells i.size 0 v2).run P w = .ok news w) :
    (Builtin.append_ #[t, u] ty #[.slice none 0 0, v2]).run P w = .ok (.slice none 0 0) w := by
  rcases hd with ⟨e2, rfl⟩ | rfl <;>
    simp [Builtin.append_, run_underlying ht, run_underlying hu, sizeOf, typeInfo, hi, hlen, hnew]

omit hs hok in
theorem run_append_on {t u ty e : TypeId} {i : TypeInfo} {z : Value} {d : TypeDesc} (ht : P.underlying t = some (.slice e)) (hu : P.underlying u = some d) (hd : (∃ e2, d = .slice e2) ∨ d = .string) (hi : P.info? e = some i) (hz : i.zero = some z)
    {base : Option Addr} {sLen sCap n : Nat} {v2 : Value} {olds news : Array Value} (hlen : (Builtin.lenOf v2).run P w = .ok n w) (hnew : (Builtin.firstCells i.size n v2).run P w.drew = .ok news w.drew)
    (hold : (Builtin.firstCells i.size sLen (.slice base sLen sCap)).run P w.drew = .ok olds w.drew) (hfit : (sLen + n) * i.bytes ≤ 140737488355328) (h63 : sLen + n ≤ 140737488355328) (hlt : sCap < sLen + n) :
    (Builtin.append_ #[t, u] ty #[.slice base sLen sCap, v2]).run P w =
      .ok (.slice (some ⟨w.heap.size, 0, none⟩) (sLen + n) (grownCap w (sLen + n) sCap e)) (w.drew.alloc (.cells (olds ++ news ++ Builtin.zeroCells z.cells (grownCap w (sLen + n) sCap e - (sLen + n))) e)) := by
  have h1 : ¬ (sLen + n ≤ sCap) := by omega
  have h2 : ¬ (9223372036854775807 < ((sLen : Int) + (n : Int))) := by omega
  have h3 := growslice_fits hlt hfit
  have h4 : ¬ (281474976710656 < Builtin.nextslicecap (sLen + n) sCap * i.bytes) := by omega
  rcases hd with ⟨e2, rfl⟩ | rfl <;>
    simp [Builtin.append_, run_underlying ht, run_underlying hu, sizeOf, typeInfo, zeroValue, hi, hz, hlen, hnew, hold, h1, h2, h4, Question.forced, newRow, grownCap]

/-- What an append's second operand is: a list, cell by cell. -/
def Src (P : Program) (T : Ty I) (w : World) (E : Nat → Nat) (e : Nat) (v : Value) (m : List (I e)) : Prop :=
  ∃ news : Array Value, (∀ w0 : World, (Builtin.lenOf v).run P w0 = .ok m.length w0) ∧ (∀ w0 : World, w0.heap = w.heap → (Builtin.firstCells (T.sz e) m.length v).run P w0 = .ok news w0) ∧ news.size = m.length * T.sz e ∧
    ∀ (i : Nat) x, m[i]? = some x → ∀ (j : Nat) c, (T.cells e x)[j]? = some c → ∃ u, news[i * T.sz e + j]? = some u ∧ RepC T w E u c

omit hs in
theorem cell_heap {w0 w : World} (h : w0.heap = w.heap) (a : Addr) : w0.cell? a = w.cell? a := by simp only [World.cell?, h]

omit hs in
/-- The cells of a list, as they are read. -/
theorem sl_first {v : Value} {e : Nat} {m : List (I e)} (h : RepC T w E v (.sl e m)) : Src P T w E e v m := by
  rcases sl_inv h with ⟨ad, rfl, rfl⟩ | ⟨b, off, cap, val, rfl, hE, hcap, hc⟩
  · exact ⟨#[], fun w0 => rfl, fun w0 _ => (by cases ad <;> simp [Builtin.firstCells, loadCells, loadCellsFrom]), by simp, fun i x hi => by simp at hi⟩
  · have hcell : ∀ k, k < m.length * T.sz e → w.cell? ⟨b, off + k, none⟩ = some (val (k / T.sz e) (k % T.sz e)) := by
      intro k hk
      have hs0 : 0 < T.sz e := Nat.pos_of_ne_zero (fun q => by rw [q] at hk; simp at hk)
      have hi : k / T.sz e < m.length := Nat.div_lt_of_lt_mul (by rw [Nat.mul_comm]; exact hk)
      have hj : k % T.sz e < (T.cells e m[k / T.sz e]).length := by rw [hok.len]; exact Nat.mod_lt _ hs0
      have := (hc (k / T.sz e) _ (List.getElem?_eq_getElem hi) (k % T.sz e) _ (List.getElem?_eq_getElem hj)).1
      rw [← this]
      congr 2
      rw [Nat.mul_comm]; have := Nat.div_add_mod k (T.sz e); omega
    refine ⟨((List.range (m.length * T.sz e)).map fun k => val (k / T.sz e) (k % T.sz e)).toArray, fun w0 => rfl, fun w0 h0 => ?_, by simp, fun i x hi j c hj => ?_⟩
    · simp only [Builtin.firstCells]
      exact run_loadCells w0 _ _ _ (fun k hk => by rw [add_at, cell_heap hok h0]; exact hcell k hk)
    · have hlt := cells_lt hok.len hi hj
      have hj' : j < T.sz e := by rw [← hok.len e x]; exact (List.getElem?_eq_some_iff.1 hj).1
      have hd : (i * T.sz e + j) / T.sz e = i := by
        rw [Nat.mul_comm, Nat.mul_add_div (by omega)]; simp [Nat.div_eq_of_lt hj']
      have hm : (i * T.sz e + j) % T.sz e = j := by
        rw [Nat.mul_comm, Nat.mul_add_mod]; exact Nat.mod_eq_of_lt hj'
      exact ⟨val i j, by simp [hlt, hd, hm], (hc i x hi j c hj).2⟩

omit hs in
theorem str_first {s : ByteArray} {e : Nat} {q : (List Int → List (I e)) × (List (I e) → List Int)} (hq : T.u8 e = some q) : Src P T w E e (.string s) (q.1 (bytesOf s)) ∧ (q.1 (bytesOf s)).length = s.size := by
  obtain ⟨hq1, -⟩ := hok.u8 e q hq
  obtain ⟨hlen, hel⟩ := hq1 (bytesOf s)
  have hbl : (bytesOf s).length = s.size := by rw [bytesOf, List.length_map, ByteArray.toList_eq]; rfl
  rw [hbl] at hlen
  have h1 : ∀ (i : Nat) x, (q.1 (bytesOf s))[i]? = some x → ∃ y, s.data[i]? = some y ∧ T.cells e x = [.int .u8 (y.toNat : Int)] ∧ T.sz e = 1 := by
    intro i x hi
    have hil : i < (bytesOf s).length := by rw [hbl, ← hlen]; exact (List.getElem?_eq_some_iff.1 hi).1
    obtain ⟨x', hx', hcell⟩ := hel i _ (List.getElem?_eq_getElem hil)
    rw [hx'] at hi; cases hi
    have hg := List.getElem?_eq_getElem hil
    simp only [bytesOf, List.getElem?_map, Option.map_eq_some_iff] at hg
    obtain ⟨y, hy, hy2⟩ := hg
    refine ⟨y, by rw [ByteArray.toList_eq] at hy; simpa using hy, ?_, by rw [← hok.len e x, hcell]; rfl⟩
    rw [hcell]
    simp only [bytesOf, List.getElem_map] at hy2 ⊢
    rw [← hy2]
  refine ⟨⟨s.data.map fun b => .int .u8 b.toNat, fun w0 => by rw [hlen]; rfl, fun w0 _ => ?_, ?_, fun i x hi j c hj => ?_⟩, hlen⟩
  · rw [hlen]
    have : s.extract 0 s.size = s := by
      apply ByteArray.ext
      rw [ByteArray.data_extract]
      exact Array.extract_size
    simp only [Builtin.firstCells, this, Sem.run_pure]
  · rcases Nat.eq_zero_or_pos s.size with h0 | h0
    · rw [hlen, h0]; simpa using h0
    · obtain ⟨_, _, _, h3⟩ := h1 0 _ (List.getElem?_eq_getElem (by omega : 0 < (q.1 (bytesOf s)).length))
      rw [hlen, h3]; simp
  · obtain ⟨y, hy, hcell, hz⟩ := h1 i x hi
    rw [hcell] at hj
    cases j with
    | succ j => simp at hj
    | zero => simp at hj; subst hj; exact ⟨.int .u8 y.toNat, by rw [hz]; simp [hy], .int .u8 _⟩

omit hs hok in
theorem accOf_rep {v : Value} {c : C I} {e : Nat} {l : List (I e)} (h : RepT T φ w E v c) (hl : accOf e c = some l) : RepC T w E v (.sl e l) ∧ Tok w E (T.sz e) v ∧ (tokC v c = tokV v ∨ v = .slice none 0 0) := by
  cases c <;> simp only [accOf, reduceCtorEq] at hl
  case nils => cases hl; have h : RepC T w E v .nils := h; cases h; exact ⟨.nilsl e none, trivial, .inr rfl⟩
  case acc e' l' => obtain ⟨rfl, rfl⟩ := castL_eq hl; exact ⟨h.1, h.2, .inl rfl⟩
  case lit e' x => obtain ⟨rfl, rfl⟩ := castL_eq hl; exact ⟨h.1, h.2, .inl rfl⟩

theorem most_fits {e : Nat} {n : Nat} (h : n ≤ most P e) : n * bytesOfT P e ≤ 140737488355328 ∧ n ≤ 140737488355328 := by
  unfold most at h
  have h1 : n * max 1 (bytesOfT P e) ≤ 140737488355328 := by
    calc n * max 1 (bytesOfT P e) ≤ (140737488355328 / max 1 (bytesOfT P e)) * max 1 (bytesOfT P e) := Nat.mul_le_mul_right _ h
      _ ≤ 140737488355328 := Nat.div_mul_le_self _ _
  constructor
  · exact Nat.le_trans (Nat.mul_le_mul_left _ (Nat.le_max_right _ _)) h1
  · exact Nat.le_trans (by have := Nat.mul_le_mul_left n (Nat.le_max_left 1 (bytesOfT P e)); omega) h1

/-- An append, whatever its second operand is. -/
theorem ok_append {args : Array Operand} {ts : Array TypeId} {x y : Operand} {t u : TypeId} {e : Nat} {d : TypeDesc} {c : C I} {l m : List (I e)} (ho : o.op = .call { callee := .builtin .append, args := args, argTypes := ts }) (ha : args.toList = [x, y]) (hts : ts.toList = [t, u])
    (ht : P.underlying t = some (.slice e)) (hu : P.underlying u = some d) (hd : (∃ e2, d = .slice e2) ∨ d = .string) (hz : okE P e = true)
    (hx : ev T fr x = .y (.one c)) (hl : accOf e c = some l) (hsrc : Src P T w E e (a.eval y) m) (hfit : l.length + m.length ≤ most P e)
    (h : K (.c (.acc e (l ++ m))) (drop fr x) H = some out) : Sound P T K out φ E w fr H a o := by
  obtain ⟨i, z, hi, hz, hzs⟩ : ∃ i z, P.info? e = some i ∧ i.zero = some z ∧ z.cells.size = i.size := by
    unfold okE at hz
    split at hz
    · rename_i i hi
      split at hz
      · rename_i z hz2; exact ⟨i, z, hi, hz2, by simpa using hz⟩
      · cases hz
    · cases hz
  have ha' : args = #[x, y] := Array.toList_inj.1 (by simpa using ha)
  have ht' : ts = #[t, u] := Array.toList_inj.1 (by simpa using hts)
  subst ha'; subst ht'
  have hrx := ev_rep hs a.defers x
  rw [hx] at hrx
  obtain ⟨r1, r2, r3⟩ := accOf_rep hrx hl
  obtain ⟨news, n1, n2, n3, n4⟩ := hsrc
  have hTi : T.sz e = i.size := by rw [hok.sz, hi]; rfl
  have hTb : bytesOfT P e = i.bytes := by unfold bytesOfT; rw [hi]; rfl
  obtain ⟨f1, f2⟩ := most_fits (P := P) hs hok hfit
  rw [hTb] at f1
  have h1 := drop_sim hs x
  have hdt : ∀ k b, tokOf φ H w (drop fr x) a.tmps k = some b → tokOf φ H w fr a.tmps k = some b := fun k b q => (drop_tok x q).1
  have hrun : ∀ {v : Value} {w' : World}, (Builtin.append_ #[t, u] o.type #[a.eval x, a.eval y]).run P w = .ok v w' → (execOp a.eval o).run P w = .ok (.value v) w' := by
    intro v w' h2
    refine run_call_builtin ho ?_
    simp only [Go.builtin, Sem.run_bind]
    rw [show (#[x, y].map a.eval) = #[a.eval x, a.eval y] by simp, h2]
    simp only [Result.andThen_ok, Sem.run_pure]
  have hfree : ∀ b, tokV (a.eval x) = some b → (∀ k, tokOf φ H w (drop fr x) a.tmps k ≠ some b) ∧ (∀ o : Nat, live H o → φ[o]? ≠ some b) ∧ b < w.heap.size ∧ ∃ i, tokOf φ H w fr a.tmps i = some b := by
    intro b q
    rcases r3 with r3 | r3
    · exact drop_free hs a.defers x (by rw [hx]; show tokC _ c = _; rw [r3]; exact q)
    · have r3 : a.eval x = .slice none 0 0 := r3
      rw [r3] at q; cases q
  rcases sl_inv r1 with ⟨ad, hv, hl0⟩ | ⟨b, off, cap, val, hv, hE, hcap, hc⟩
  · have hv : a.eval x = .slice ad 0 0 := hv
    subst hl0
    rcases Nat.eq_zero_or_pos m.length with hm | hm
    · have hm0 : m = [] := List.length_eq_zero_iff.1 hm
      subst hm0
      have hn0 : news = #[] := by have : news.size = 0 := by rw [n3]; simp
                                  exact Array.eq_empty_of_size_eq_zero this
      exact ⟨.slice ad 0 0, _, φ, E, w, _, _, h, .inl (hrun (by
          rw [hv]
          cases ad with
          | none => exact run_append_no ht hu hd hi (n1 w) (by rw [← hTi]; exact n2 w rfl)
          | some ad => exact run_append_in (w' := w) (sLen := 0) (sCap := 0) ht hu hd hi (n1 w) (by rw [← hTi]; exact n2 w rfl) (Nat.le_refl _) (by rw [hn0]; rfl))),
        Res.of hok hs h1 hdt (Ch.refl w E hs.fresh (fun _ => False)) (fun _ _ q => q.elim) (fun _ _ _ q => q) (fun _ _ _ _ q => q) (x := .c (.acc e ([] ++ []))) ⟨.nilsl e ad, (by cases ad with | none => trivial | some ad => exact fun q => absurd q (by omega))⟩ (fun b q => by cases ad <;> cases q)⟩
    · have hrun2 := run_append_on (P := P) (w := w) (sCap := 0) (sLen := 0) (base := ad) (olds := #[]) (ty := o.type) ht hu hd hi hz (n1 w) (by rw [← hTi]; exact n2 w.drew rfl) (by cases ad <;> simp [Builtin.firstCells, loadCells, loadCellsFrom]) (by simpa using f1) (by simpa using f2) (by omega)
      have hr := Res.freshAcc (S := wrOf T fr o) hok hs h1 hdt (w0 := w.drew) ⟨rfl, rfl, rfl, rfl⟩ (#[] ++ news ++ Builtin.zeroCells z.cells (grownCap w (0 + m.length) 0 e - (0 + m.length))) e m (grownCap w (0 + m.length) 0 e) (by simp only [grownCap, Question.cut]; omega)
        (by
          have hcap : m.length ≤ grownCap w (0 + m.length) 0 e := by simp only [grownCap, Question.cut]; omega
          have hz2 : (Builtin.zeroCells z.cells (grownCap w (0 + m.length) 0 e - (0 + m.length))).size = (grownCap w (0 + m.length) 0 e - m.length) * T.sz e := by
            rw [hTi, ← hzs]; simp [Builtin.zeroCells]
          rw [Array.size_append, hz2, Array.size_append, n3, Nat.sub_mul]
          have := Nat.mul_le_mul_right (T.sz e) hcap
          simp; omega) (fun i x hi j c hj => by
          obtain ⟨u', hu', hr'⟩ := n4 i x hi j c hj
          refine ⟨u', ?_, hr'⟩
          have hlt := (Array.getElem?_eq_some_iff.1 hu').1
          rw [Array.getElem?_append_left (by simp; exact hlt)]
          simpa using hu') (.acc e ([] ++ m)) (.inl rfl)
      rw [show m.length = 0 + m.length by omega] at hr
      exact ⟨_, _, _, _, _, _, _, h, .inl (hrun (by rw [hv]; exact hrun2)), by simpa using hr⟩
  · have hv : a.eval x = .slice (some ⟨b, off, none⟩) l.length cap := hv
    have hll : (l ++ m).length = l.length + m.length := by simp
    have hold : ∃ olds : Array Value, (∀ w0 : World, w0.heap = w.heap → (Builtin.firstCells i.size l.length (.slice (some ⟨b, off, none⟩) l.length cap)).run P w0 = .ok olds w0) ∧ olds.size = l.length * T.sz e ∧
        ∀ (i : Nat) x, l[i]? = some x → ∀ (j : Nat) c, (T.cells e x)[j]? = some c → ∃ u, olds[i * T.sz e + j]? = some u ∧ RepC T w E u c := by
      have r1' : RepC T w E (.slice (some ⟨b, off, none⟩) l.length cap) (.sl e l) := by rw [← hv]; exact r1
      obtain ⟨olds, _, o2, o3, o4⟩ := sl_first (P := P) hok r1'
      exact ⟨olds, fun w0 h0 => by rw [← hTi]; exact o2 w0 h0, o3, o4⟩
    by_cases hle : l.length + m.length ≤ cap
    · rcases Nat.eq_zero_or_pos m.length with hm | hm
      · have hm0 : m = [] := List.length_eq_zero_iff.1 hm
        subst hm0
        have hn0 : news = #[] := by have : news.size = 0 := by rw [n3]; simp
                                    simpa using this
        subst hn0
        have hrn := run_append_in (P := P) (ty := o.type) (w' := w) (ad := ⟨b, off, none⟩) ht hu hd hi (n1 w) (by rw [← hTi]; exact n2 w rfl) hle rfl
        refine ⟨_, _, φ, E, w, _, _, h, .inl (hrun (by rw [hv]; exact hrn)), ?_⟩
        have hvv : a.eval x = .slice (some ⟨b, off, none⟩) (l.length + ([] : List (I e)).length) cap := hv
        refine Res.of hok hs h1 hdt (Ch.refl w E hs.fresh (fun _ => False)) (fun _ _ q => q.elim) (fun _ _ _ q => q) (fun _ _ _ _ q => q) (x := .c (.acc e (l ++ []))) ?_ (fun b' q => ?_)
        · rw [← hvv, List.append_nil]; exact ⟨r1, r2⟩
        · rw [← hvv] at q
          obtain ⟨g1, g2, g3, g4⟩ := hfree b' q
          exact ⟨g1, g2, g3, .inl (.inr g4)⟩
      · have hlc : l.length < cap := by omega
        have hr2 : Tok w E (T.sz e) (.slice (some ⟨b, off, none⟩) l.length cap) := by rw [← hv]; exact r2
        obtain ⟨t1, arr, ty, t2, t3⟩ := hr2 hlc
        have t1 : E b = off + l.length * T.sz e := t1
        have t2 : w.heap[b]? = some (.cells arr ty (0, 0)) := t2
        have t3 : off + cap * T.sz e ≤ arr.size := t3
        have hmul : l.length * T.sz e + m.length * T.sz e ≤ cap * T.sz e := by rw [← Nat.add_mul]; exact Nat.mul_le_mul_right _ hle
        have hfit2 : off + l.length * T.sz e + 0 + news.toList.length ≤ arr.size := by simp only [Array.length_toList, n3]; omega
        have hone : ∀ u ∈ news.toList, u.oneCell' = true := by
          intro u hu'
          obtain ⟨k, hk1, hk2⟩ := List.getElem_of_mem hu'
          simp only [Array.length_toList, n3] at hk1
          have hs0 : 0 < T.sz e := Nat.pos_of_ne_zero (fun q => by rw [q] at hk1; simp at hk1)
          have hi2 : k / T.sz e < m.length := Nat.div_lt_of_lt_mul (by rw [Nat.mul_comm]; exact hk1)
          have hj2 : k % T.sz e < (T.cells e m[k / T.sz e]).length := by rw [hok.len]; exact Nat.mod_lt _ hs0
          obtain ⟨u', hu2, hr'⟩ := n4 _ _ (List.getElem?_eq_getElem hi2) _ _ (List.getElem?_eq_getElem hj2)
          have hk3 : k / T.sz e * T.sz e + k % T.sz e = k := by rw [Nat.mul_comm]; exact Nat.div_add_mod k _
          rw [hk3] at hu2
          have : news[k]? = some u := by rw [← Array.getElem?_toList, List.getElem?_eq_getElem (by simpa [n3] using hk1), hk2]
          rw [this] at hu2; cases hu2
          exact hr'.one
        obtain ⟨w', s1, s2⟩ := storeCells_run P b (off + l.length * T.sz e) ty news.toList 0 w arr t2 hfit2 hone
        have hrn := run_append_in (P := P) (ty := o.type) (w' := w') ht hu hd hi (n1 w) (by rw [← hTi]; exact n2 w rfl) hle (by rw [add_at, ← hTi]; exact s1)
        have hbf := hfree b (by rw [hv]; simp [tokV, hlc])
        have hget := setL_get news.toList arr (off + l.length * T.sz e + 0)
        have hch : Ch (fun k => k = b) w E w' (pub E b (off + (l ++ m).length * T.sz e)) := by
          refine ⟨s2.os, s2.tape, s2.output, by rw [s2.size]; exact Nat.le_refl _, fun k hk hn => ⟨s2.other k hn, pub_other _ _ _ _ hn⟩, fun k => ?_, fun k of_ ho => ?_, fun k hk => ?_, fun k n q => ?_⟩
          · by_cases q : k = b
            · subst q; rw [pub_here, t1, hll, Nat.add_mul]; omega
            · rw [pub_other _ _ _ _ q]; exact Nat.le_refl _
          · by_cases q : k = b
            · subst q
              rw [t1] at ho
              simp only [World.cell?, s2.here, t2, Option.isSome_none, Bool.false_eq_true, if_false]
              rw [hget _ (by omega), if_neg (by omega)]
            · exact cell_of_block (s2.other k q) of_
          · rw [s2.size] at hk
            rw [pub_other _ _ _ _ (by omega)]; exact hs.fresh k hk
          · by_cases e : k = b
            · subst e; exact ⟨_, ty, s2.here, s2.room n q⟩
            · obtain ⟨a1, t1', q1, q2⟩ := q
              exact ⟨a1, t1', (s2.other k e).trans q1, q2⟩
        have hcellb : ∀ k, w'.cell? ⟨b, k, none⟩ = (setL arr (off + l.length * T.sz e + 0) news.toList)[k]? := fun k => by simp [World.cell?, s2.here]
        refine ⟨_, _, φ, pub E b (off + (l ++ m).length * T.sz e), w', _, _, h, .inl (hrun (by rw [hv]; exact hrn)), ?_⟩
        rw [← hll]
        refine Res.of hok hs h1 hdt hch (fun k _ q => by subst q; exact hbf.2.2.2) (fun k b' q e' => by subst e'; exact hbf.1 k q) (fun o' b' l q e' => by subst e'; exact hbf.2.1 o' l q) (x := .c (.acc e (l ++ m))) ⟨?_, ?_⟩ (fun b' q => ?_)
        · refine .sl e (l ++ m) b off cap (fun k j => ((setL arr (off + l.length * T.sz e + 0) news.toList)[off + (k * T.sz e + j)]?).getD undef) (by rw [pub_here]; exact Nat.le_refl _) (by rw [hll]; exact hle) ?_ ?_
          all_goals
            intro k x hk j c' hj
            have hlt := cells_lt hok.len hk hj
            have hcj : j < T.sz e := by rw [← hok.len e x]; exact (List.getElem?_eq_some_iff.1 hj).1
            have hval : ∃ u', (setL arr (off + l.length * T.sz e + 0) news.toList)[off + (k * T.sz e + j)]? = some u' ∧ RepC T w E u' c' := by
              rw [hget _ (by omega)]
              rcases Nat.lt_or_ge k l.length with q | q
              · rw [List.getElem?_append_left q] at hk
                have := cells_lt hok.len hk hj
                rw [if_neg (by omega)]
                obtain ⟨g1, g2⟩ := hc k x hk j c' hj
                refine ⟨_, ?_, g2⟩
                rw [← g1]; simp [World.cell?, t2]
              · rw [List.getElem?_append_right q] at hk
                obtain ⟨u', hu', hr'⟩ := n4 _ x hk j c' hj
                refine ⟨u', ?_, hr'⟩
                have hlt2 := (Array.getElem?_eq_some_iff.1 hu').1
                have he : k * T.sz e = l.length * T.sz e + (k - l.length) * T.sz e := by rw [← Nat.add_mul]; congr 1; omega
                rw [if_pos (by simp only [Array.length_toList]; omega)]
                rw [show off + (k * T.sz e + j) - (off + l.length * T.sz e + 0) = (k - l.length) * T.sz e + j by omega]
                simpa using hu'
            obtain ⟨u', g1, g2⟩ := hval
            first
              | (rw [hcellb, g1]; rfl)
              | (simp only [g1, Option.getD_some]; exact RepC.ch hok.len g2 hch.ext hch.cells)
        · intro _
          exact ⟨by show pub E b _ b = _; rw [pub_here], _, ty, s2.here, by rw [setL_size]; exact t3⟩
        · have : b' = b := by
            have q : tokV (.slice (some ⟨b, off, none⟩) (l ++ m).length cap) = some b' := q
            simp only [tokV] at q
            split at q
            · cases q; rfl
            · cases q
          subst this
          exact ⟨hbf.1, hbf.2.1, by rw [s2.size]; exact hbf.2.2.1, .inl (.inr hbf.2.2.2)⟩
    · obtain ⟨olds, o1, o2, o3⟩ := hold
      have hrun2 := run_append_on (P := P) (w := w) (ty := o.type) ht hu hd hi hz (n1 w) (by rw [← hTi]; exact n2 w.drew rfl) (o1 w.drew rfl) f1 f2 (by omega)
      have hcap2 : (l ++ m).length ≤ grownCap w (l.length + m.length) cap e := by rw [hll]; simp only [grownCap, Question.cut]; omega
      have hr := Res.freshAcc (S := wrOf T fr o) hok hs h1 hdt (w0 := w.drew) ⟨rfl, rfl, rfl, rfl⟩ (olds ++ news ++ Builtin.zeroCells z.cells (grownCap w (l.length + m.length) cap e - (l.length + m.length))) e (l ++ m) (grownCap w (l.length + m.length) cap e) hcap2
        (by
          have hz2 : (Builtin.zeroCells z.cells (grownCap w (l.length + m.length) cap e - (l.length + m.length))).size = (grownCap w (l.length + m.length) cap e - (l.length + m.length)) * T.sz e := by
            rw [hTi, ← hzs]; simp [Builtin.zeroCells]
          rw [Array.size_append, hz2, Array.size_append, n3, o2, Nat.sub_mul]
          have := Nat.mul_le_mul_right (T.sz e) hcap2
          rw [hll, Nat.add_mul] at this
          rw [Nat.add_mul]; omega) (fun k x hk j c' hj => by
          have hlt := cells_lt hok.len hk hj
          rw [hll, Nat.add_mul] at hlt
          rw [Array.getElem?_append_left (by simp [o2, n3]; omega)]
          rcases Nat.lt_or_ge k l.length with q | q
          · rw [List.getElem?_append_left q] at hk
            obtain ⟨u', hu', hr'⟩ := o3 k x hk j c' hj
            exact ⟨u', by rw [Array.getElem?_append_left ((Array.getElem?_eq_some_iff.1 hu').1)]; exact hu', hr'⟩
          · rw [List.getElem?_append_right q] at hk
            obtain ⟨u', hu', hr'⟩ := n4 _ x hk j c' hj
            have he : k * T.sz e = l.length * T.sz e + (k - l.length) * T.sz e := by rw [← Nat.add_mul]; congr 1; omega
            refine ⟨u', ?_, hr'⟩
            rw [Array.getElem?_append_right (by rw [o2]; omega), o2, show k * T.sz e + j - l.length * T.sz e = (k - l.length) * T.sz e + j by omega]
            exact hu') (.acc e (l ++ m)) (.inl rfl)
      rw [hll] at hr
      exact ⟨_, _, _, _, _, _, _, h, .inl (hrun (by rw [hv]; exact hrun2)), hr⟩
/-- An append to a slice of one's own. -/
theorem ok_append_own {args : Array Operand} {ts : Array TypeId} {x y : Operand} {t u : TypeId} {e : Nat} {d : TypeDesc} {l m : List (I e)} (ho : o.op = .call { callee := .builtin .append, args := args, argTypes := ts }) (ha : args.toList = [x, y]) (hts : ts.toList = [t, u])
    (ht : P.underlying t = some (.slice e)) (hu : P.underlying u = some d) (hd : (∃ e2, d = .slice e2) ∨ d = .string) (hz : okE P e = true)
    (hx : ev T fr x = .y (.one (.own e l))) (hsrc : Src P T w E e (a.eval y) m) (hfit : l.length + m.length ≤ most P e)
    (h : K (.c (.own e (l ++ m))) (drop fr x) H = some out) : Sound P T K out φ E w fr H a o := by
  obtain ⟨i, z, hi, hz, hzs⟩ : ∃ i z, P.info? e = some i ∧ i.zero = some z ∧ z.cells.size = i.size := by
    unfold okE at hz
    split at hz
    · rename_i i hi
      split at hz
      · rename_i z hz2; exact ⟨i, z, hi, hz2, by simpa using hz⟩
      · cases hz
    · cases hz
  have ha' : args = #[x, y] := Array.toList_inj.1 (by simpa using ha)
  have ht' : ts = #[t, u] := Array.toList_inj.1 (by simpa using hts)
  subst ha'; subst ht'
  have hrx := ev_rep hs a.defers x
  rw [hx] at hrx
  obtain ⟨news, n1, n2, n3, n4⟩ := hsrc
  have hTi : T.sz e = i.size := by rw [hok.sz, hi]; rfl
  have hTb : bytesOfT P e = i.bytes := by unfold bytesOfT; rw [hi]; rfl
  obtain ⟨f1, f2⟩ := most_fits (P := P) hs hok hfit
  rw [hTb] at f1
  have h1 := drop_sim hs x
  have hdt : ∀ k b, tokOf φ H w (drop fr x) a.tmps k = some b → tokOf φ H w fr a.tmps k = some b := fun k b q => (drop_tok x q).1
  have hrun : ∀ {v : Value} {w' : World}, (Builtin.append_ #[t, u] o.type #[a.eval x, a.eval y]).run P w = .ok v w' → (execOp a.eval o).run P w = .ok (.value v) w' := by
    intro v w' h2
    refine run_call_builtin ho ?_
    simp only [Go.builtin, Sem.run_bind]
    rw [show (#[x, y].map a.eval) = #[a.eval x, a.eval y] by simp, h2]
    simp only [Result.andThen_ok, Sem.run_pure]
  have hfree : ∀ b, tokW (a.eval x) = some b → (∀ k, tokOf φ H w (drop fr x) a.tmps k ≠ some b) ∧ (∀ o : Nat, live H o → φ[o]? ≠ some b) ∧ b < w.heap.size ∧ ∃ i, tokOf φ H w fr a.tmps i = some b := by
    intro b q
    exact drop_free hs a.defers x (by rw [hx]; exact q)
  have hll : (l ++ m).length = l.length + m.length := by simp
  rcases hrx with ⟨hl0, ad, hv⟩ | ⟨b, cap, arr, ty, hv, hc0, hcap, hE, hblk, hroom, hc⟩
  · have hv : a.eval x = .slice ad 0 0 := hv
    subst hl0
    rcases Nat.eq_zero_or_pos m.length with hm | hm
    · have hm0 : m = [] := List.length_eq_zero_iff.1 hm
      subst hm0
      have hn0 : news = #[] := by have : news.size = 0 := by rw [n3]; simp
                                  exact Array.eq_empty_of_size_eq_zero this
      exact ⟨.slice ad 0 0, _, φ, E, w, _, _, h, .inl (hrun (by
          rw [hv]
          cases ad with
          | none => exact run_append_no ht hu hd hi (n1 w) (by rw [← hTi]; exact n2 w rfl)
          | some ad => exact run_append_in (w' := w) (sLen := 0) (sCap := 0) ht hu hd hi (n1 w) (by rw [← hTi]; exact n2 w rfl) (Nat.le_refl _) (by rw [hn0]; rfl))),
        Res.of hok hs h1 hdt (Ch.refl w E hs.fresh (fun _ => False)) (fun _ _ q => q.elim) (fun _ _ _ q => q) (fun _ _ _ _ q => q) (x := .c (.own e ([] ++ []))) (.inl ⟨rfl, ad, rfl⟩) (fun b q => by cases ad <;> cases q)⟩
    · have hrun2 := run_append_on (P := P) (w := w) (sCap := 0) (sLen := 0) (base := ad) (olds := #[]) (ty := o.type) ht hu hd hi hz (n1 w) (by rw [← hTi]; exact n2 w.drew rfl) (by cases ad <;> simp [Builtin.firstCells, loadCells, loadCellsFrom]) (by simpa using f1) (by simpa using f2) (by omega)
      have hr := Res.freshOwn (S := wrOf T fr o) hok hs h1 hdt (w0 := w.drew) ⟨rfl, rfl, rfl, rfl⟩ (#[] ++ news ++ Builtin.zeroCells z.cells (grownCap w (0 + m.length) 0 e - (0 + m.length))) e m (grownCap w (0 + m.length) 0 e) (by simp only [grownCap, Question.cut]; omega) hm
        (by
          have hcap : m.length ≤ grownCap w (0 + m.length) 0 e := by simp only [grownCap, Question.cut]; omega
          have hz2 : (Builtin.zeroCells z.cells (grownCap w (0 + m.length) 0 e - (0 + m.length))).size = (grownCap w (0 + m.length) 0 e - m.length) * T.sz e := by
            rw [hTi, ← hzs]; simp [Builtin.zeroCells]
          rw [Array.size_append, hz2, Array.size_append, n3, Nat.sub_mul]
          have := Nat.mul_le_mul_right (T.sz e) hcap
          simp; omega) (fun i x hi j c hj => by
          obtain ⟨u', hu', hr'⟩ := n4 i x hi j c hj
          refine ⟨u', ?_, hr'⟩
          have hlt := (Array.getElem?_eq_some_iff.1 hu').1
          rw [Array.getElem?_append_left (by simp; exact hlt)]
          simpa using hu')
      rw [show m.length = 0 + m.length by omega] at hr
      exact ⟨_, _, _, _, _, _, _, h, .inl (hrun (by rw [hv]; exact hrun2)), by simpa using hr⟩
  · have hv : a.eval x = .slice (some ⟨b, 0, none⟩) l.length cap := hv
    have hbf := hfree b (by rw [hv]; simp only [tokW]; rw [if_pos (by omega)])
    by_cases hle : l.length + m.length ≤ cap
    · have hmul : l.length * T.sz e + m.length * T.sz e ≤ cap * T.sz e := by rw [← Nat.add_mul]; exact Nat.mul_le_mul_right _ hle
      have hfit2 : 0 + l.length * T.sz e + 0 + news.toList.length ≤ arr.size := by simp only [Array.length_toList, n3]; omega
      have hone : ∀ u ∈ news.toList, u.oneCell' = true := by
        intro u hu'
        obtain ⟨k, hk1, hk2⟩ := List.getElem_of_mem hu'
        simp only [Array.length_toList, n3] at hk1
        have hs0 : 0 < T.sz e := Nat.pos_of_ne_zero (fun q => by rw [q] at hk1; simp at hk1)
        have hi2 : k / T.sz e < m.length := Nat.div_lt_of_lt_mul (by rw [Nat.mul_comm]; exact hk1)
        have hj2 : k % T.sz e < (T.cells e m[k / T.sz e]).length := by rw [hok.len]; exact Nat.mod_lt _ hs0
        obtain ⟨u', hu2, hr'⟩ := n4 _ _ (List.getElem?_eq_getElem hi2) _ _ (List.getElem?_eq_getElem hj2)
        have hk3 : k / T.sz e * T.sz e + k % T.sz e = k := by rw [Nat.mul_comm]; exact Nat.div_add_mod k _
        rw [hk3] at hu2
        have : news[k]? = some u := by rw [← Array.getElem?_toList, List.getElem?_eq_getElem (by simpa [n3] using hk1), hk2]
        rw [this] at hu2; cases hu2
        exact hr'.one
      obtain ⟨w', s1, s2⟩ := storeCells_run P b (0 + l.length * T.sz e) ty news.toList 0 w arr hblk hfit2 hone
      have hrn := run_append_in (P := P) (ty := o.type) (w' := w') ht hu hd hi (n1 w) (by rw [← hTi]; exact n2 w rfl) hle (by rw [add_at, ← hTi]; exact s1)
      have hget := setL_get news.toList arr (0 + l.length * T.sz e + 0)
      have hch := s2.ch hE hs.fresh
      refine ⟨_, _, φ, E, w', _, _, h, .inl (hrun (by rw [hv]; exact hrn)), ?_⟩
      rw [← hll]
      refine Res.of hok hs h1 hdt hch (fun k _ q => by subst q; exact hbf.2.2.2) (fun k b' q e' => by subst e'; exact hbf.1 k q) (fun o' b' l q e' => by subst e'; exact hbf.2.1 o' l q) (x := .c (.own e (l ++ m))) (.inr ⟨b, cap, _, ty, rfl, by rw [hll]; omega, by rw [hll]; exact hle, hE, s2.here, by rw [setL_size]; exact hroom, ?_⟩) (fun b' q => ?_)
      · intro k x hk j c' hj
        have hlt := cells_lt hok.len hk hj
        have hcj : j < T.sz e := by rw [← hok.len e x]; exact (List.getElem?_eq_some_iff.1 hj).1
        have hval : ∃ u', (setL arr (0 + l.length * T.sz e + 0) news.toList)[k * T.sz e + j]? = some u' ∧ RepC T w E u' c' := by
          rw [hget _ (by omega)]
          rcases Nat.lt_or_ge k l.length with q | q
          · rw [List.getElem?_append_left q] at hk
            have := cells_lt hok.len hk hj
            rw [if_neg (by omega)]
            exact hc k x hk j c' hj
          · rw [List.getElem?_append_right q] at hk
            obtain ⟨u', hu', hr'⟩ := n4 _ x hk j c' hj
            refine ⟨u', ?_, hr'⟩
            have hlt2 := (Array.getElem?_eq_some_iff.1 hu').1
            have he : k * T.sz e = l.length * T.sz e + (k - l.length) * T.sz e := by rw [← Nat.add_mul]; congr 1; omega
            rw [if_pos (by simp only [Array.length_toList]; omega)]
            rw [show k * T.sz e + j - (0 + l.length * T.sz e + 0) = (k - l.length) * T.sz e + j by omega]
            simpa using hu'
        obtain ⟨u', g1, g2⟩ := hval
        exact ⟨u', g1, RepC.ch hok.len g2 hch.ext hch.cells⟩
      · have : b' = b := by
          have q : tokW (.slice (some ⟨b, 0, none⟩) (l ++ m).length cap) = some b' := q
          simp only [tokW, if_pos (show 0 < cap by omega)] at q
          cases q; rfl
        subst this
        exact ⟨hbf.1, hbf.2.1, by rw [s2.size]; exact hbf.2.2.1, .inl (.inr hbf.2.2.2)⟩
    · have hold : ∃ olds : Array Value, (∀ w0 : World, w0.heap = w.heap → (Builtin.firstCells i.size l.length (.slice (some ⟨b, 0, none⟩) l.length cap)).run P w0 = .ok olds w0) ∧ olds.size = l.length * T.sz e ∧
          ∀ (i : Nat) x, l[i]? = some x → ∀ (j : Nat) c, (T.cells e x)[j]? = some c → ∃ u, olds[i * T.sz e + j]? = some u ∧ RepC T w E u c := by
        have hm2 : l.length * T.sz e ≤ arr.size := Nat.le_trans (Nat.mul_le_mul_right _ hcap) hroom
        refine ⟨((List.range (l.length * T.sz e)).map fun k => (arr[k]?).getD undef).toArray, fun w0 h0 => ?_, by simp, fun i x hi j c hj => ?_⟩
        · simp only [Builtin.firstCells]
          rw [← hTi]
          exact run_loadCells w0 _ _ _ (fun k hk => by
            rw [add_at, cell_heap hok h0]
            simp only [World.cell?, hblk, Nat.zero_add]
            rw [Array.getElem?_eq_getElem (by omega)]
            rfl)
        · have hlt := cells_lt hok.len hi hj
          obtain ⟨u, hu', hr'⟩ := hc i x hi j c hj
          exact ⟨u, by simp [hlt, hu'], hr'⟩
      obtain ⟨olds, o1, o2, o3⟩ := hold
      have hrun2 := run_append_on (P := P) (w := w) (ty := o.type) ht hu hd hi hz (n1 w) (by rw [← hTi]; exact n2 w.drew rfl) (o1 w.drew rfl) f1 f2 (by omega)
      have hcap2 : (l ++ m).length ≤ grownCap w (l.length + m.length) cap e := by rw [hll]; simp only [grownCap, Question.cut]; omega
      have hr := Res.freshOwn (S := wrOf T fr o) hok hs h1 hdt (w0 := w.drew) ⟨rfl, rfl, rfl, rfl⟩ (olds ++ news ++ Builtin.zeroCells z.cells (grownCap w (l.length + m.length) cap e - (l.length + m.length))) e (l ++ m) (grownCap w (l.length + m.length) cap e) hcap2 (by rw [hll]; omega)
        (by
          have hz2 : (Builtin.zeroCells z.cells (grownCap w (l.length + m.length) cap e - (l.length + m.length))).size = (grownCap w (l.length + m.length) cap e - (l.length + m.length)) * T.sz e := by
            rw [hTi, ← hzs]; simp [Builtin.zeroCells]
          rw [Array.size_append, hz2, Array.size_append, n3, o2, Nat.sub_mul]
          have := Nat.mul_le_mul_right (T.sz e) hcap2
          rw [hll, Nat.add_mul] at this
          rw [Nat.add_mul]; omega) (fun k x hk j c' hj => by
          have hlt := cells_lt hok.len hk hj
          rw [hll, Nat.add_mul] at hlt
          rw [Array.getElem?_append_left (by simp [o2, n3]; omega)]
          rcases Nat.lt_or_ge k l.length with q | q
          · rw [List.getElem?_append_left q] at hk
            obtain ⟨u', hu', hr'⟩ := o3 k x hk j c' hj
            exact ⟨u', by rw [Array.getElem?_append_left ((Array.getElem?_eq_some_iff.1 hu').1)]; exact hu', hr'⟩
          · rw [List.getElem?_append_right q] at hk
            obtain ⟨u', hu', hr'⟩ := n4 _ x hk j c' hj
            have he : k * T.sz e = l.length * T.sz e + (k - l.length) * T.sz e := by rw [← Nat.add_mul]; congr 1; omega
            refine ⟨u', ?_, hr'⟩
            rw [Array.getElem?_append_right (by rw [o2]; omega), o2, show k * T.sz e + j - l.length * T.sz e = (k - l.length) * T.sz e + j by omega]
            exact hu')
      rw [hll] at hr
      exact ⟨_, _, _, _, _, _, _, h, .inl (hrun (by rw [hv]; exact hrun2)), hr⟩
end
end
end Go.Proofs.YtgefikclhfjcgaaDoorEv

namespace Go.Proofs.YtgefikclhfjcgaaDoorEv
open Go Go.RowKit
set_option linter.unusedVariables false
set_option linter.unusedSectionVars false
set_option linter.unusedSimpArgs false

/-- A map's block turned. -/
structure SetM (w : World) (b : Nat) (es : Array MapEntry) (clock : Nat) (w' : World) : Prop where
  os : w'.os = w.os
  tape : w'.tape = w.tape
  output : w'.output = w.output
  size : w'.heap.size = w.heap.size
  here : w'.heap[b]? = some (.map es clock)
  other : ∀ k, k ≠ b → w'.heap[k]? = w.heap[k]?
  was : ∀ n, ¬ Room w b n

theorem SetM.of {w : World} {b : Nat} {es es' : Array MapEntry} {clock clock' : Nat} (hb : w.heap[b]? = some (.map es clock)) : SetM w b es' clock' { w with heap := w.heap.setIfInBounds b (.map es' clock') } :=
  ⟨rfl, rfl, rfl, by simp, (MapKept.heap_set hb).1, (MapKept.heap_set hb).2, fun n ⟨a, t, q1, q2⟩ => by rw [hb] at q1; cases q1⟩

def Kd.desc : Kd → TypeDesc
  | .int q => .int q
  | .str => .string
theorem kdOf_desc {P : Program} {k : TypeId} {kd : Kd} (h : kdOf P k = some kd) : P.underlying k = some kd.desc := by
  unfold kdOf at h
  split at h <;> first | (cases h; assumption) | cases h

section
variable {I : Nat → Type} {P : Program} {T : Ty I} {w w' : World} {E E' : Nat → Nat} {φ φ' : List Nat} {fr fr1 : Fr I} {H H' : Hp I} {R : Type} {out : R} {K : Kont I R} {o : Oper} {tm : Array Value} {D S : Nat → Prop}

theorem SetM.ch {b : Nat} {es : Array MapEntry} {clock : Nat} (h : SetM w b es clock w') (hE : E b = 0) (hf : ∀ b, w.heap.size ≤ b → E b = 0) : Ch (fun k => k = b) w E w' E :=
  ⟨h.os, h.tape, h.output, by rw [h.size]; exact Nat.le_refl _, fun k _ hn => ⟨h.other k hn, rfl⟩, fun _ => Nat.le_refl _,
   fun k off ho => by
    have : k ≠ b := fun e => by subst e; omega
    exact cell_of_block (h.other k this) off,
   fun k hk => hf k (by rw [← h.size]; exact hk),
   fun k n q => by
    by_cases e : k = b
    · subst e; exact absurd q (h.was n)
    · obtain ⟨a, t, q1, q2⟩ := q
      exact ⟨a, t, (h.other k e).trans q1, q2⟩⟩

/-- A variable that is a map. -/
def isMap : O I → Bool
  | .map .. => true
  | _ => false

theorem live_isMap {H : Hp I} {i : Nat} {ob : O I} (h : H[i]? = some ob) (hm : isMap ob = true) : live H i := by
  cases ob with
  | map kd k e l => exact live_map h
  | _ => cases hm
theorem setMap_key (h : Sim T φ E w fr H tm) {i b : Nat} (hφ : φ[i]? = some b) (hlv : live H i) {es : Array MapEntry} {clock : Nat} (hs : SetM w b es clock w') {ob : O I} (hob : isMap ob = true) :
    ∀ q k, tokOf φ (H.set i ob) w' fr tm q = some k → tokOf φ H w fr tm q = some k := by
  have hil : i < H.length := by rw [← h.len]; exact (List.getElem?_eq_some_iff.1 hφ).1
  intro q k hk
  cases q with
  | slot t => exact hk
  | cell o' j =>
    by_cases e : o' = i
    · subst e
      simp only [tokOf, hφ, List.getElem?_set_self hil] at hk
      cases ob <;> first | (cases hob; done) | (simp at hk; done) | (cases hk; done)
    · simp only [tokOf] at hk ⊢
      rw [List.getElem?_set_ne (fun q => e q.symm)] at hk
      cases h1 : φ[o']? with
      | none => simp [h1] at hk
      | some b' =>
        simp only [h1] at hk
        cases hH : H[o']? with
        | none => simp [hH] at hk
        | some x =>
          cases x with
          | var cs =>
            have hbb : b' ≠ b := fun q => e (h.inj o' i b (q ▸ h1) hφ (live_var hH) hlv)
            simp only [hH, cell_of_block (hs.other b' hbb)] at hk ⊢
            exact hk
          | row e l => simp [hH] at hk
          | map a b c d => simp [hH] at hk
          | gone => simp [hH] at hk

theorem newMap_key (h : Sim T φ E w fr H tm) (es : Array MapEntry) (clock : Nat) {ob : O I} (hob : isMap ob = true) :
    ∀ q k, tokOf (φ ++ [w.heap.size]) (H ++ [ob]) (w.alloc (.map es clock)) fr tm q = some k → tokOf φ H w fr tm q = some k := by
  intro q k hb
  cases q with
  | slot t => exact hb
  | cell o j =>
    simp only [tokOf] at hb
    cases h1 : (φ ++ [w.heap.size])[o]? with
    | none => simp [h1] at hb
    | some bb =>
      cases h2 : (H ++ [ob])[o]? with
      | none => simp [h1, h2] at hb
      | some ob' =>
        cases ob' with
        | var cs =>
          simp only [h1, h2] at hb
          rcases get_app_inv h1 with k1 | ⟨k1, k1'⟩
          · have ho := (List.getElem?_eq_some_iff.1 k1).1
            rw [h.len] at ho
            rw [List.getElem?_append_left ho] at h2
            have hc := cell_of_block (Below.heap_alloc w (.map es clock) bb (h.zero o bb k1).2) j
            simp only [tokOf, k1, h2, ← hc]; exact hb
          · rcases get_app_inv h2 with k2 | ⟨k2, k2'⟩
            · have := (List.getElem?_eq_some_iff.1 k2).1
              have := h.len; omega
            · subst k2'; cases hob
        | row e l => simp [h1, h2] at hb
        | map a b c d => simp [h1, h2] at hb
        | gone => simp [h1, h2] at hb

theorem Sim.newMap (hT : ∀ e (x : I e), (T.cells e x).length = T.sz e) (h : Sim T φ E w fr H tm) (es : Array MapEntry) (clock : Nat) {ob : O I} (hm : isMap ob = true)
    (hob : RepO T (φ ++ [w.heap.size]) (w.alloc (.map es clock)) E w.heap.size ob) : Sim T (φ ++ [w.heap.size]) E (w.alloc (.map es clock)) fr (H ++ [ob]) tm := by
  have hch := Ch.alloc w E h.fresh (.map es clock) (fun _ => False)
  have hw := h.world hT hch (fun _ _ _ q => q) (fun _ _ _ _ q => q)
  have hφ : ∀ (o b : Nat), φ[o]? = some b → (φ ++ [w.heap.size])[o]? = some b := fun o b q => get_app_some q
  have hlt : ∀ (o b : Nat), φ[o]? = some b → b < w.heap.size := fun o b q => (h.zero o b q).2
  have key := newMap_key h es clock hm
  refine { len := by simp [h.len], objs := ?_, slots := ?_, flen := h.flen, inj := ?_, zero := ?_, fresh := hw.fresh, tinj := ?_, tobj := ?_, tlt := ?_, glob := hw.glob }
  · intro o b ob' h1 h2
    rcases get_app_inv h1 with k1 | ⟨k1, k1'⟩
    · have ho := (List.getElem?_eq_some_iff.1 k1).1
      rw [h.len] at ho
      rw [List.getElem?_append_left ho] at h2
      refine (h.objs o b ob' k1 h2).ch hT hch hφ (hlt o b k1) (fun q => q) ?_
      intro cs hob j c u hc hu k hk
      subst hob
      have e : tokOf φ H w fr tm (.cell o j) = some k := by simp only [tokOf, k1, h2, hc, hu]; exact hk
      exact ⟨fun q => q, h.tlt _ k e⟩
    · rcases get_app_inv h2 with k2 | ⟨k2, k2'⟩
      · have := (List.getElem?_eq_some_iff.1 k2).1
        have := h.len; omega
      · rw [k1', k2']; exact hob
  · intro t
    exact (h.slots t).ch hT hch hφ (fun _ _ q => rowAt_app q) (fun _ _ q => q) (fun b hb => h.tlt (.slot t) b hb)
  · intro o o' b h1 h2 hl1 hl2
    rcases get_app_inv h1 with k1 | ⟨k1, k1'⟩ <;> rcases get_app_inv h2 with k2 | ⟨k2, k2'⟩
    · exact h.inj o o' b k1 k2 (live_app (by rw [← h.len]; exact (List.getElem?_eq_some_iff.1 k1).1) hl1) (live_app (by rw [← h.len]; exact (List.getElem?_eq_some_iff.1 k2).1) hl2)
    · have := hlt o b k1; omega
    · have := hlt o' b k2; omega
    · omega
  · intro o b h1
    rcases get_app_inv h1 with k1 | ⟨k1, k1'⟩
    · exact ⟨fun q => (h.zero o b k1).1 (live_app (by rw [← h.len]; exact (List.getElem?_eq_some_iff.1 k1).1) q), by have := hlt o b k1; simp; omega⟩
    · subst k1'; exact ⟨fun _ => h.fresh _ (Nat.le_refl _), by simp⟩
  · intro i j b hi hj
    exact h.tinj i j b (key i b hi) (key j b hj)
  · intro i b o hi hlv ho
    rcases get_app_inv ho with k1 | ⟨k1, k1'⟩
    · exact h.tobj i b o (key i b hi) (live_app (by rw [← h.len]; exact (List.getElem?_eq_some_iff.1 k1).1) hlv) k1
    · subst k1'; have := h.tlt i _ (key i _ hi); omega
  · intro i b hi
    have := h.tlt i b (key i b hi); simp; omega

theorem Sim.setMap (hT : ∀ e (x : I e), (T.cells e x).length = T.sz e) (h : Sim T φ E w fr H tm) {o b : Nat} (hφ : φ[o]? = some b) (hng : live H o) {es : Array MapEntry} {clock : Nat} (hs : SetM w b es clock w') {ob : O I} (hm : isMap ob = true)
    (hob : RepO T φ w' E b ob) (hrow : ∀ r, rowAt H o ≠ some r) : Sim T φ E w' fr (H.set o ob) tm := by
  have hz := h.zero o b hφ
  have hch : Ch (fun k => k = b) w E w' E := hs.ch (hz.1 hng) h.fresh
  have hol : o < H.length := by rw [← h.len]; exact (List.getElem?_eq_some_iff.1 hφ).1
  have key := setMap_key h hφ hng hs hm
  have free : ∀ i k, tokOf φ H w fr tm i = some k → k ≠ b := fun i k q e => h.tobj i k o q hng (e ▸ hφ)
  refine { len := by simp [h.len], objs := ?_, slots := ?_, flen := h.flen, inj := ?_, zero := ?_, fresh := hch.fresh, tinj := ?_, tobj := ?_, tlt := ?_, glob := ?_ }
  · intro o' b' ob' h1 h2
    by_cases e : o' = o
    · subst e
      rw [hφ] at h1; cases h1
      rw [List.getElem?_set_self hol] at h2; cases h2
      exact hob
    · rw [List.getElem?_set_ne (fun q => e q.symm)] at h2
      by_cases hlo : live H o'
      case neg => exact repO_dead hlo h2
      have hbb : b' ≠ b := fun q => e (h.inj o' o b (q ▸ h1) hφ hlo hng)
      refine (h.objs o' b' ob' h1 h2).ch hT hch (fun _ _ q => q) (h.zero o' b' h1).2 hbb ?_
      intro cs hob j c u hc hu k hk
      subst hob
      have e1 : tokOf φ H w fr tm (.cell o' j) = some k := by simp only [tokOf, h1, h2, hc, hu]; exact hk
      exact ⟨free _ k e1, h.tlt _ k e1⟩
  · intro t
    exact (h.slots t).ch hT hch (fun _ _ q => q) (fun o' r q => rowAt_set (fun q' e => absurd (e ▸ q') (hrow r)) q)
      (fun k hk => free (.slot t) k hk) (fun k hk => h.tlt (.slot t) k hk)
  · intro o1 o2 b' h1 h2 hl1 hl2
    have hl : ∀ q, live (H.set o ob) q → live H q := fun q hq => by
      by_cases e : q = o
      · rw [e]; exact hng
      · exact live_ne e hq
    exact h.inj o1 o2 b' h1 h2 (hl _ hl1) (hl _ hl2)
  · intro o' b' h1
    refine ⟨fun q => ?_, by rw [hs.size]; exact (h.zero o' b' h1).2⟩
    by_cases e : o' = o
    · subst e; rw [hφ] at h1; cases h1; exact hz.1 hng
    · exact (h.zero o' b' h1).1 (live_ne e q)
  · intro i j k hi hj
    exact h.tinj i j k (key i k hi) (key j k hj)
  · intro i k o' hi hlv ho
    have hlv' : live H o' := by
      by_cases e : o' = o
      · rw [e]; exact hng
      · exact live_ne e hlv
    exact h.tobj i k o' (key i k hi) hlv' ho
  · intro i k hi
    rw [hs.size]; exact h.tlt i k (key i k hi)
  · intro g x hg
    obtain ⟨e, l, hx, hr⟩ := h.glob g x hg
    exact ⟨e, l, hx, hr.ch hT hch.ext hch.cells⟩

/-! ### keys -/
theorem isKd_key {kd : Kd} {c : C I} {v : Value} (hc : isKd kd c = true) (hv : RepC T w E v c) : MapKept.IsKey kd.desc v := by
  cases kd <;> cases c <;> simp only [isKd, Bool.false_eq_true, decide_eq_true_eq] at hc
  · cases hv; subst hc; rfl
  · cases hv; trivial
theorem isKd_weak {kd : Kd} {c : C I} (hc : isKd kd c = true) : c.weak = c := by
  cases kd <;> cases c <;> first | rfl | cases hc
theorem isKd_rep {kd : Kd} {c : C I} {v : Value} (hc : isKd kd c = true) (hv : RepT T φ w E v c) : RepC T w E v c := by
  cases kd <;> cases c <;> first | exact hv | cases hc

theorem sameNow_ceq {kd : Kd} {c d : C I} {x y : Value} (hc : isKd kd c = true) (hd : isKd kd d = true) (hx : RepC T w E x c) (hy : RepC T w E y d) :
    Instr.sameNow kd.desc x y = some (ceq c d) ∧ (ceq c d = true → x = y) := by
  obtain ⟨r, h1, h2⟩ := MapKept.sameNow_of_keys (isKd_key hc hx) (isKd_key hd hy)
  have : ceq c d = r := by
    cases kd <;> cases c <;> simp only [isKd, Bool.false_eq_true, decide_eq_true_eq] at hc <;> cases d <;> simp only [isKd, Bool.false_eq_true, decide_eq_true_eq] at hd
    · cases hx; cases hy; subst hc; subst hd
      simp only [ceq]
      rw [Bool.eq_iff_iff, h2, beq_iff_eq]
      simp
    · rename_i s t
      cases hx; cases hy
      simp only [ceq]
      rw [Bool.eq_iff_iff, h2, beq_iff_eq]
      constructor
      · intro e
        have : s = t := by
          cases s; cases t
          rw [ByteArray.toList_eq, ByteArray.toList_eq] at e
          simpa using e
        rw [this]
      · intro e; cases e; rfl
  rw [this]
  exact ⟨h1, h2.1⟩

/-- An entry and what it is. -/
def EntryRep (T : Ty I) (w : World) (E : Nat → Nat) (kd : Kd) {k e : Nat} (m : MapEntry) (p : I k × I e) : Prop :=
  ∃ d c, T.cells k p.1 = [d] ∧ isKd kd d = true ∧ RepC T w E m.key d ∧ T.cells e p.2 = [c] ∧ RepC T w E m.val c

theorem keq_of {k : Nat} {c d : C I} {a : I k} (h : T.cells k a = [d]) : keq T k c a = ceq c d := by unfold keq; rw [h]

theorem find_rep {kd : Kd} {k e : Nat} {c : C I} {x : Value} (hc : isKd kd c = true) (hx : RepC T w E x c) : ∀ (ms : List MapEntry) (l : List (I k × I e)) (i : Nat), ms.length = l.length →
    (∀ (j : Nat) p, l[j]? = some p → ∃ m, ms[j]? = some m ∧ EntryRep T w E kd m p) →
    (Instr.findNow kd.desc x ms i = some none ∧ mget (keq T k c) l = none ∧ (∀ a b, mput (keq T k c) a b l = l ++ [(a, b)]) ∧ mdel (keq T k c) l = l) ∨
    ∃ j m q, Instr.findNow kd.desc x ms i = some (some (i + j, m.val)) ∧ ms[j]? = some m ∧ l[j]? = some q ∧ mget (keq T k c) l = some q.2 ∧ (∀ a b, mput (keq T k c) a b l = l.set j (a, b)) ∧ mdel (keq T k c) l = l.eraseIdx j ∧ m.key = x
  | [], [], i, _, _ => .inl ⟨rfl, rfl, fun _ _ => rfl, rfl⟩
  | m :: ms, q :: l, i, hl, hr => by
    obtain ⟨m', hm, d, c2, q1, q2, q3, q4, q5⟩ := hr 0 q rfl
    simp at hm; subst hm
    obtain ⟨e1, e2⟩ := sameNow_ceq hc q2 hx q3
    have ek : keq T k c q.1 = ceq c d := keq_of q1
    simp only [Instr.findNow, e1]
    cases hb : ceq c d with
    | true =>
      right
      refine ⟨0, m, q, by simp, rfl, rfl, ?_, ?_, ?_, (e2 hb).symm⟩
      · simp only [mget, ek, hb, if_true]
      · intro a b; simp only [mput, ek, hb, if_true, List.set_cons_zero]
      · simp only [mdel, ek, hb, if_true, List.eraseIdx_cons_zero]
    | false =>
      rcases find_rep hc hx ms l (i + 1) (by simpa using hl) (fun j p hp => hr (j + 1) p (by simpa using hp)) with ⟨g1, g2, g3, g4⟩ | ⟨j, m1, q0, g1, g2, g3, g4, g5, g6, g7⟩
      · left
        refine ⟨g1, ?_, ?_, ?_⟩
        · simp only [mget, ek, hb]; exact g2
        · intro a b; simp only [mput, ek, hb]; rw [if_neg (by simp), g3]; rfl
        · simp only [mdel, ek, hb]; rw [if_neg (by simp), g4]
      · right
        refine ⟨j + 1, m1, q0, by rw [g1]; simp; omega, by simpa using g2, by simpa using g3, ?_, ?_, ?_, g7⟩
        · simp only [mget, ek, hb]; exact g4
        · intro a b; simp only [mput, ek, hb]; rw [if_neg (by simp), g5]; simp
        · simp only [mdel, ek, hb]; rw [if_neg (by simp), g6]; simp
  | [], _ :: _, _, h, _ => by cases h
  | _ :: _, [], _, h, _ => by cases h

theorem repMap {b : Nat} {kd : Kd} {k e : Nat} {l : List (I k × I e)} (h : RepO T φ w E b (.map kd k e l)) : ∃ es clock, w.heap[b]? = some (.map es clock) ∧ es.size = l.length ∧ ∀ (i : Nat) p, l[i]? = some p → ∃ m, es[i]? = some m ∧ EntryRep T w E kd m p := by
  obtain ⟨es, clock, h1, h2, h3⟩ := h
  refine ⟨es, clock, h1, h2, fun i p hp => ?_⟩
  obtain ⟨m, d, c, q0, q⟩ := h3 i p hp
  exact ⟨m, q0, d, c, q⟩
theorem mkMap {b : Nat} {kd : Kd} {k e : Nat} {l : List (I k × I e)} {es : Array MapEntry} {clock : Nat} (h1 : w.heap[b]? = some (.map es clock)) (h2 : es.size = l.length) (h3 : ∀ (i : Nat) p, l[i]? = some p → ∃ m, es[i]? = some m ∧ EntryRep T w E kd m p) :
    RepO T φ w E b (.map kd k e l) := by
  refine ⟨es, clock, h1, h2, fun i p hp => ?_⟩
  obtain ⟨m, q0, d, c, q⟩ := h3 i p hp
  exact ⟨m, d, c, q0, q⟩
theorem EntryRep.mono {kd : Kd} {k e : Nat} {m : MapEntry} {p : I k × I e} (h : EntryRep T w E kd m p) (hr : ∀ v c, RepC T w E v c → RepC T w' E' v c) : EntryRep T w' E' kd m p := by
  obtain ⟨d, c, q1, q2, q3, q4, q5⟩ := h
  exact ⟨d, c, q1, q2, hr _ _ q3, q4, hr _ _ q5⟩

theorem castM_eq {k e k' e' : Nat} {l : List (I k × I e)} {l' : List (I k' × I e')} (h : castM l = some l') : ∃ (h1 : k = k') (h2 : e = e'), l' = h1 ▸ h2 ▸ l := by
  unfold castM at h
  split at h
  · split at h
    · rename_i h1 h2; cases h; exact ⟨h1, h2, rfl⟩
    · cases h
  · cases h

section
variable {a : Act} (hs : Sim T φ E w fr H a.tmps) (hok : TyOK P T)
include hs hok

theorem ok_makeMap {t k e : TypeId} {kd : Kd} (ho : o.op = .makeMap t none) (h : K (.c (.map H.length)) fr (H ++ [.map kd k e []]) = some out) : Sound P T K out φ E w fr H a o := by
  have hob : RepO T (φ ++ [w.heap.size]) (w.alloc (.map #[] 0)) E w.heap.size (.map kd k e [] : O I) := mkMap (es := #[]) (clock := 0) (MapKept.heap_alloc w _).1 rfl (fun i p hp => by simp at hp)
  have hsim := hs.newMap hok.len #[] 0 (ob := (.map kd k e [] : O I)) rfl hob
  refine ⟨.map (some w.heap.size), .c (.map H.length), _, E, _, fr, _, h, .inl ?_, { sim := hsim, rep := ⟨w.heap.size, ptr_new φ _ hs.len, rfl⟩, free := (fun b hb => by cases hb), ch := Ch.alloc w E hs.fresh _ _, own := ?_, pre := fun o b hb => get_app_some hb, rows := fun _ _ q => rowAt_app q }⟩
  · unfold execOp; rw [ho]
    simp only [Option.map_none, Instr.makeMap, Sem.run_bind, Sem.run_pure, Result.andThen_ok, run_newObj, World.alloc_eq]
  · intro b hb
    rcases hb with hb | hb
    · rcases hb with ⟨o, hl, hb⟩ | ⟨q, hb⟩
      · rcases get_app_inv hb with k | ⟨_, k⟩
        · exact .inl (.inl ⟨o, live_app (by rw [← hs.len]; exact (List.getElem?_eq_some_iff.1 k).1) hl, k⟩)
        · exact .inr (by omega)
      · exact .inl (.inr ⟨q, newMap_key hs #[] 0 (ob := (.map kd k e [] : O I)) rfl q b hb⟩)
    · cases hb

theorem ok_lookup {t : TypeId} {m x : Operand} {ok : Bool} (ho : o.op = .lookup t m x ok) (h : lookupAt P T H t (ev T fr m) (ev T fr x) ok (fun x => K x fr H) = some out) : Sound P T K out φ E w fr H a o := by
  have hm := ev_rep hs a.defers m
  have hx := ev_rep hs a.defers x
  unfold lookupAt at h
  split at h
  · rename_i q1 q2 q3 k0 e0 i c hu e1 e2
    rw [e1] at hm
    rw [e2] at hx
    split at h
    · rename_i q4 q5 q6 kd k e l0 kd' z hH hkd hz
      split at h
      · rename_i q7 l hl
        obtain ⟨rfl, rfl, rfl⟩ := castM_eq hl
        split at h
        · rename_i hk
          simp only [Bool.and_eq_true, decide_eq_true_eq] at hk
          obtain ⟨rfl, hkc⟩ := hk
          obtain ⟨b, hb, hv'⟩ := hm
          have hv : a.eval m = .map (some b) := hv'
          obtain ⟨es, clock, h1, h2, h3⟩ := repMap (hs.objs i b _ hb hH)
          have hd := kdOf_desc hkd
          have hxc := isKd_rep hkc hx
          have hik := isKd_key hkc hxc
          -- the zero value
          obtain ⟨c0, hc0, hz0⟩ := Option.bind_eq_some_iff.1 hz
          unfold zero1 at hc0
          obtain ⟨zv, hzv, hcz⟩ := Option.bind_eq_some_iff.1 hc0
          obtain ⟨inf, hinf, hzv⟩ := Option.bind_eq_some_iff.1 hzv
          have hzr : RepC T w E zv c0 := cOf_rep hcz
          have hzrun := run_zeroValue (w := w) hinf hzv
          have hfind := find_rep hkc hxc es.toList l 0 (by simpa using h2) (fun j p hp => by obtain ⟨m, hm1, hm2⟩ := h3 j p hp; exact ⟨m, by simpa using hm1, hm2⟩)
          have main : ∀ v u (B : Bool), T.cells e ((mget (keq T k c) l).getD z) = [v] → RepC T w E u v → (mget (keq T k c) l).isSome = B → (Instr.lookup t (.map (some b)) (a.eval x) ok).run P w = .ok (if ok then .tuple #[u, .bool B] else u) w → Sound P T K out φ E w fr H a o := by
            intro v u B hv1 hu1 hB hrun
            rw [hv1] at h
            simp only at h
            have hex : (execOp a.eval o).run P w = .ok (.value (if ok then .tuple #[u, .bool B] else u)) w := by
              unfold execOp; rw [ho]; simp only [hv, Sem.run_bind, hrun, Result.andThen_ok, Sem.run_pure]
            cases ok with
            | true =>
              rw [if_pos rfl] at h
              refine ⟨_, _, _, _, _, _, _, h, .inl hex, Res.same hs (x := .tup [.one v, .one (.bool (.b (mget (keq T k c) l).isSome))]) ⟨#[u, .bool B], by simp, rfl, ?_⟩ rfl⟩
              intro j y hy
              match j with
              | 0 => simp at hy; subst hy; exact ⟨u, rfl, RepT.weak (hu1.toT (φ := φ))⟩
              | 1 =>
                simp at hy; subst hy
                refine ⟨.bool B, rfl, ?_⟩
                rw [← hB]
                exact (show RepC T w E _ (.bool (.b (mget (keq T k c) l).isSome)) from RepC.bool (.b _))
              | j + 2 => simp at hy
            | false =>
              rw [if_neg (by simp)] at h
              exact ok_one hs (by simpa using hex) h hu1
          rcases hfind with ⟨f1, f2, _⟩ | ⟨j, m1, q, f1, f2, f3, f4, _, _, _⟩
          · have hcell : T.cells e z = [c0] ∨ ∃ d, T.cells e z = [d] ∧ RepC T w E zv d := by
              obtain ⟨t1, t2⟩ := hok.of e _ z hz0
              obtain ⟨_, d, hd1, hd2⟩ := t2 0 c0 rfl
              have hlen := hok.len e z
              rw [← t1] at hlen
              match hcs : T.cells e z, hlen, hd1 with
              | [d'], _, hd1 => simp at hd1; subst hd1; exact .inr ⟨d', rfl, hd2 w E zv hzr⟩
            obtain ⟨d, hd1, hd2⟩ : ∃ d, T.cells e z = [d] ∧ RepC T w E zv d := by
              rcases hcell with q | q
              · exact ⟨c0, q, hzr⟩
              · exact q
            refine main d zv false (by rw [f2]; exact hd1) hd2 (by rw [f2]; rfl) ?_
            simp [Instr.lookup, run_underlying hu, MapKept.run_getObj_map h1, MapKept.run_checkKey hd hik, MapKept.run_findKey hd f1, hzrun, Result.andThen]
          · obtain ⟨m2, g1, d, c2, _, _, _, g5, g6⟩ := h3 j q f3
            have : m2 = m1 := by rw [Array.getElem?_toList] at f2; rw [f2] at g1; cases g1; rfl
            subst this
            refine main c2 m2.val true (by rw [f4]; exact g5) g6 (by rw [f4]; rfl) ?_
            simp [Instr.lookup, run_underlying hu, MapKept.run_getObj_map h1, MapKept.run_checkKey hd hik, MapKept.run_findKey hd f1, Result.andThen]
        · cases h
      · cases h
    · cases h
  · cases h

/-- A map turned: what an operation on it comes to. -/
theorem ok_setMap {m : Operand} {i b : Nat} {es : Array MapEntry} {clock : Nat} {ob : O I} {v : Value} (hm : mapArg o.op = some m) (e1 : ev T fr m = .c (.map i)) (hb : φ[i]? = some b) {fr1 : Fr I} (h1 : Sim T φ E w fr1 H a.tmps)
    (hfr : ∀ q k, tokOf φ H w fr1 a.tmps q = some k → tokOf φ H w fr a.tmps q = some k)
    {ob0 : O I} (hH : H[i]? = some ob0) (hob0 : isMap ob0 = true) (hset : SetM w b es clock w') (hob : RepO T φ w' E b ob) (hmap : isMap ob = true) (h : K .dead fr1 (H.set i ob) = some out) (hrun : Runs P o a w v w') : Sound P T K out φ E w fr H a o := by
  have hsim := h1.setMap hok.len hb (live_isMap hH hob0) hset hmap hob (fun r hr => by unfold rowAt at hr; rw [hH] at hr; cases ob0 <;> first | (cases hob0; done) | (cases hr; done))
  have hch := hset.ch ((hs.zero i b hb).1 (live_isMap hH (by first | exact hob0 | rfl))) hs.fresh
  refine ⟨v, .dead, φ, E, w', fr1, _, h, hrun, { sim := hsim, rep := trivial, free := (fun b q => by cases q), ch := hch.mono (fun b' _ q => by subst q; exact .inl ⟨i, .inr ⟨m, hm, e1⟩, live_isMap hH hob0, hb⟩), own := ?_, pre := fun _ _ q => q, rows := fun o' r q => rowAt_set (fun q' e => by subst e; unfold rowAt at q'; rw [hH] at q'; cases ob0 <;> first | (cases hob0; done) | (cases q'; done)) q }⟩
  intro b' q
  rcases q with q | q
  · rcases q with ⟨o', ql, q⟩ | ⟨p, q⟩
    · exact .inl (.inl ⟨o', live_back (live_isMap hH hob0) ql, q⟩)
    · exact .inl (.inr ⟨p, hfr p b' (setMap_key h1 hb (live_isMap hH hob0) hset hmap p b' q)⟩)
  · cases q

theorem ok_update {t : TypeId} {m x v : Operand} (ho : o.op = .mapUpdate t m x v) (h : updateAt P T (drop fr v) H t (ev T fr m) (ev T fr x) (ev T fr v) (fun fr H => K .dead fr H) = some out) : Sound P T K out φ E w fr H a o := by
  have hm := ev_rep hs a.defers m
  have hx := ev_rep hs a.defers x
  have hv := ev_rep hs a.defers v
  have h1 := drop_sim hs v
  unfold updateAt at h
  split at h
  · rename_i q1 q2 q3 q4 k0 e0 i c d hu e1 e2 e3
    rw [e1] at hm
    rw [e2] at hx
    rw [e3] at hv
    split at h
    · rename_i r1 r2 r3 r4 kd k e l0 kd' ka vb hH hkd hka hvb
      split at h
      · rename_i r5 l hl
        obtain ⟨rfl, rfl, rfl⟩ := castM_eq hl
        split at h
        · rename_i hk
          simp only [Bool.and_eq_true, decide_eq_true_eq] at hk
          obtain ⟨rfl, hkc⟩ := hk
          obtain ⟨b, hb, hmv'⟩ := hm
          have hmv : a.eval m = .map (some b) := hmv'
          obtain ⟨es, clock, g1, g2, g3⟩ := repMap (hs.objs i b _ hb hH)
          have hd := kdOf_desc hkd
          have hxc := isKd_rep hkc hx
          have hik := isKd_key hkc hxc
          rw [isKd_weak hkc] at hka
          have hcell : T.cells k ka = [c] := hok.key k kd c ka hka hkc
          have hvc : RepT T φ w E (a.eval v) d := hv
          obtain ⟨dv, hdv1, hdv2⟩ : ∃ dv, T.cells e vb = [dv] ∧ RepC T w E (a.eval v) dv := by
            obtain ⟨t1, t2⟩ := hok.of e _ vb hvb
            obtain ⟨hdat, d1, hd1, hd2⟩ := t2 0 d.weak rfl
            have hlen := hok.len e vb
            rw [← t1] at hlen
            have hw : RepC T w E (a.eval v) d.weak := by
              have := RepT.weak hvc
              cases d <;> simp only [C.weak, C.data, Bool.false_eq_true] at hdat this ⊢ <;> exact this
            match hcs : T.cells e vb, hlen, hd1 with
            | [d'], _, hd1 => simp at hd1; subst hd1; exact ⟨d', rfl, hd2 w E _ hw⟩
          have hnew : ∀ born, EntryRep T w E kd ({ key := a.eval x, val := a.eval v, born := born } : MapEntry) (ka, vb) := fun born => ⟨c, dv, hcell, hkc, hxc, hdv1, hdv2⟩
          have hfind := find_rep hkc hxc es.toList l 0 (by simpa using g2) (fun j p hp => by obtain ⟨m, hm1, hm2⟩ := g3 j p hp; exact ⟨m, by simpa using hm1, hm2⟩)
          have hma : mapArg o.op = some m := by rw [ho]; rfl
          have hch0 : ∀ {es' : Array MapEntry} {clock' : Nat} {w' : World}, SetM w b es' clock' w' → ∀ v c, RepC T w E v c → RepC T w' E v c := fun hset v c q => q.ch hok.len (hset.ch ((hs.zero i b hb).1 (live_isMap hH (by first | exact hob0 | rfl))) hs.fresh).ext (hset.ch ((hs.zero i b hb).1 (live_isMap hH (by first | exact hob0 | rfl))) hs.fresh).cells
          rcases hfind with ⟨f1, f2, f3, _⟩ | ⟨j, m1, q, f1, f2, f3, f4, f5, _, f7⟩
          · have hset : SetM w b (es.push ({ key := a.eval x, val := a.eval v, born := clock } : MapEntry)) (clock + 1) _ := SetM.of g1
            refine ok_setMap hs hok hma e1 hb h1 (fun q k hq => (drop_tok v hq).1) hH rfl hset (ob := .map kd k e (mput (keq T k c) ka vb l)) ?_ rfl h (v := undef) (.inr ⟨?_, rfl⟩)
            · rw [f3]
              refine mkMap hset.here (by simp [g2]) (fun j p hp => ?_)
              rcases Nat.lt_or_ge j l.length with hj | hj
              · rw [List.getElem?_append_left hj] at hp
                obtain ⟨m2, n1, n2⟩ := g3 j p hp
                exact ⟨m2, by rw [Array.getElem?_push_lt (by omega)]; rw [← n1]; simp, n2.mono (hch0 hset)⟩
              · rw [List.getElem?_append_right hj] at hp
                have : j = l.length := by
                  rcases Nat.lt_or_ge (j - l.length) 1 with z | z
                  · omega
                  · rw [List.getElem?_eq_none (by simpa using z)] at hp; cases hp
                subst this
                simp at hp; subst hp
                exact ⟨_, by rw [← g2]; simp, (hnew clock).mono (hch0 hset)⟩
            · unfold execOp; rw [ho]
              simp [hmv, Instr.mapUpdate, run_underlying hu, MapKept.run_getObj_map g1, MapKept.run_checkKey hd hik, MapKept.run_findKey hd f1, MapKept.run_setObj_map _ g1, Result.andThen]
          · rw [Nat.zero_add] at f1
            have hj : es[j]? = some m1 := by rw [← Array.getElem?_toList]; exact f2
            have hset : SetM w b (es.modify j fun e => { e with key := a.eval x, val := a.eval v }) clock _ := SetM.of g1
            refine ok_setMap hs hok hma e1 hb h1 (fun q k hq => (drop_tok v hq).1) hH rfl hset (ob := .map kd k e (mput (keq T k c) ka vb l)) ?_ rfl h (v := undef) (.inr ⟨?_, rfl⟩)
            · rw [f5]
              refine mkMap hset.here (by simp [g2]) (fun j' p hp => ?_)
              by_cases hjj : j' = j
              · subst hjj
                rw [List.getElem?_set_self (List.getElem?_eq_some_iff.1 f3).1] at hp
                cases hp
                exact ⟨{ m1 with key := a.eval x, val := a.eval v }, by rw [Array.getElem?_modify]; simp [hj], (hnew m1.born).mono (hch0 hset)⟩
              · rw [List.getElem?_set_ne (fun q => hjj q.symm)] at hp
                obtain ⟨m2, n1, n2⟩ := g3 j' p hp
                exact ⟨m2, by rw [Array.getElem?_modify, if_neg (fun q => hjj q.symm)]; exact n1, n2.mono (hch0 hset)⟩
            · unfold execOp; rw [ho]
              have hkeep : (Instr.keyThatStays m1.key (a.eval x)).run P w = .ok (a.eval x) w := by rw [f7]; exact MapKept.run_keyThatStays hik
              simp [hmv, Instr.mapUpdate, run_underlying hu, MapKept.run_getObj_map g1, MapKept.run_checkKey hd hik, MapKept.run_findKey hd f1, hj, hkeep, MapKept.run_setObj_map _ g1, Result.andThen]
        · cases h
      · cases h
    · cases h
  · cases h

theorem ok_delete {t u : TypeId} {args : Array Operand} {ts : Array TypeId} {m x : Operand} (ho : o.op = .call { callee := .builtin .delete, args := args, argTypes := ts }) (ha : args.toList = [m, x]) (ht : ts.toList = [t, u])
    (h : deleteAt P T H t (ev T fr m) (ev T fr x) (fun H => K .dead fr H) = some out) : Sound P T K out φ E w fr H a o := by
  have hm := ev_rep hs a.defers m
  have hx := ev_rep hs a.defers x
  have ha' : args = #[m, x] := Array.toList_inj.1 (by simpa using ha)
  have ht' : ts = #[t, u] := Array.toList_inj.1 (by simpa using ht)
  subst ha'; subst ht'
  unfold deleteAt at h
  split at h
  · rename_i q1 q2 q3 k0 e0 i c hu e1 e2
    rw [e1] at hm
    rw [e2] at hx
    split at h
    · rename_i r1 r2 kd k e l0 kd' hH hkd
      split at h
      · rename_i r5 l hl
        obtain ⟨rfl, rfl, rfl⟩ := castM_eq hl
        split at h
        · rename_i hk
          simp only [Bool.and_eq_true, decide_eq_true_eq] at hk
          obtain ⟨rfl, hkc⟩ := hk
          obtain ⟨b, hb, hmv'⟩ := hm
          have hmv : a.eval m = .map (some b) := hmv'
          obtain ⟨es, clock, g1, g2, g3⟩ := repMap (hs.objs i b _ hb hH)
          have hd := kdOf_desc hkd
          have hxc := isKd_rep hkc hx
          have hik := isKd_key hkc hxc
          have hfind := find_rep hkc hxc es.toList l 0 (by simpa using g2) (fun j p hp => by obtain ⟨m, hm1, hm2⟩ := g3 j p hp; exact ⟨m, by simpa using hm1, hm2⟩)
          have hma : mapArg o.op = some m := by rw [ho]; rfl
          have hch0 : ∀ {es' : Array MapEntry} {clock' : Nat} {w' : World}, SetM w b es' clock' w' → ∀ v c, RepC T w E v c → RepC T w' E v c := fun hset v c q => q.ch hok.len (hset.ch ((hs.zero i b hb).1 (live_isMap hH (by first | exact hob0 | rfl))) hs.fresh).ext (hset.ch ((hs.zero i b hb).1 (live_isMap hH (by first | exact hob0 | rfl))) hs.fresh).cells
          have hcall : ∀ {w' : World}, (Builtin.delete_ #[t, u] o.type #[.map (some b), a.eval x]).run P w = .ok (.tuple #[]) w' → (execOp a.eval o).run P w = .ok (.value (.tuple #[])) w' := fun {w'} hr => by
            refine run_call_builtin ho ?_
            simp only [Go.builtin, Sem.run_bind]
            rw [show (#[m, x].map a.eval) = #[.map (some b), a.eval x] by simp [hmv], hr]
            simp only [Result.andThen_ok, Sem.run_pure]
          rcases hfind with ⟨f1, f2, _, f3⟩ | ⟨j, m1, q, f1, f2, f3, f4, _, f6, _⟩
          · have hset : SetM w b es clock _ := SetM.of g1
            refine ok_setMap hs hok hma e1 hb hs (fun q k hq => hq) hH rfl hset (ob := .map kd k e (mdel (keq T k c) l)) ?_ rfl h (v := .tuple #[]) (.inl (hcall ?_))
            · rw [f3]
              exact mkMap hset.here g2 (fun j p hp => by obtain ⟨m2, n1, n2⟩ := g3 j p hp; exact ⟨m2, n1, n2.mono (hch0 hset)⟩)
            · simp [Builtin.delete_, run_underlying hu, MapKept.run_getObj_map g1, MapKept.run_checkKey hd hik, MapKept.run_findKey hd f1, MapKept.run_setObj_map _ g1, Result.andThen]
          · rw [Nat.zero_add] at f1
            have hjl : j < es.size := by have := (List.getElem?_eq_some_iff.1 f2).1; simpa using this
            have hsub : (es.eraseIdxIfInBounds j).toList = es.toList.eraseIdx j := by
              unfold Array.eraseIdxIfInBounds
              rw [dif_pos hjl, Array.toList_eraseIdx]
            have hset : SetM w b (es.eraseIdxIfInBounds j) clock _ := SetM.of g1
            refine ok_setMap hs hok hma e1 hb hs (fun q k hq => hq) hH rfl hset (ob := .map kd k e (mdel (keq T k c) l)) ?_ rfl h (v := .tuple #[]) (.inl (hcall ?_))
            · rw [f6]
              refine mkMap hset.here ?_ (fun j' p hp => ?_)
              · rw [← Array.length_toList, hsub, List.length_eraseIdx, List.length_eraseIdx]; simp [g2]
              · rw [List.getElem?_eraseIdx] at hp
                have hget : (es.eraseIdxIfInBounds j)[j']? = if j' < j then es[j']? else es[j' + 1]? := by
                  rw [← Array.getElem?_toList, hsub, List.getElem?_eraseIdx]
                  split <;> simp
                rw [hget]
                split at hp <;> rename_i hlt
                · rw [if_pos hlt]; obtain ⟨m2, n1, n2⟩ := g3 _ p hp; exact ⟨m2, n1, n2.mono (hch0 hset)⟩
                · rw [if_neg hlt]; obtain ⟨m2, n1, n2⟩ := g3 _ p hp; exact ⟨m2, n1, n2.mono (hch0 hset)⟩
            · simp [Builtin.delete_, run_underlying hu, MapKept.run_getObj_map g1, MapKept.run_checkKey hd hik, MapKept.run_findKey hd f1, MapKept.run_setObj_map _ g1, Result.andThen]
        · cases h
      · cases h
    · cases h
  · cases h

theorem ok_clear {t : TypeId} {args : Array Operand} {ts : Array TypeId} {m : Operand} (ho : o.op = .call { callee := .builtin .clear, args := args, argTypes := ts }) (ha : args.toList = [m]) (ht : ts.toList = [t])
    (h : clearAt P H t (ev T fr m) (fun H => K .dead fr H) = some out) : Sound P T K out φ E w fr H a o := by
  have hm := ev_rep hs a.defers m
  have ha' : args = #[m] := Array.toList_inj.1 (by simpa using ha)
  have ht' : ts = #[t] := Array.toList_inj.1 (by simpa using ht)
  subst ha'; subst ht'
  unfold clearAt at h
  split at h
  · rename_i q1 q2 k e i hu e1
    rw [e1] at hm
    split at h
    · rename_i kd k' e' l hH
      obtain ⟨b, hb, hmv'⟩ := hm
      have hmv : a.eval m = .map (some b) := hmv'
      obtain ⟨es, clock, g1, g2, g3⟩ := repMap (hs.objs i b _ hb hH)
      have hma : mapArg o.op = some m := by rw [ho]; rfl
      have hset : SetM w b #[] clock _ := SetM.of g1
      refine ok_setMap hs hok hma e1 hb hs (fun q k hq => hq) hH rfl hset (ob := .map kd k' e' []) (mkMap hset.here rfl (fun j p hp => by simp at hp)) rfl h (v := .tuple #[]) (.inl ?_)
      refine run_call_builtin ho ?_
      have hr : (Builtin.clear_ #[t] o.type #[.map (some b)]).run P w = .ok (.tuple #[]) { w with heap := w.heap.setIfInBounds b (.map #[] clock) } := by
        simp [Builtin.clear_, run_underlying hu, MapKept.run_getObj_map g1, MapKept.run_setObj_map _ g1, Result.andThen]
      simp only [Go.builtin, Sem.run_bind]
      rw [show (#[m].map a.eval) = #[.map (some b)] by simp [hmv], hr]
      simp only [Result.andThen_ok, Sem.run_pure]
    · cases h
  · cases h
end
end
end Go.Proofs.YtgefikclhfjcgaaDoorEv

namespace Go.Proofs.YtgefikclhfjcgaaDoorEv
open Go Go.RowKit
set_option linter.unusedVariables false
set_option linter.unusedSectionVars false
set_option linter.unusedSimpArgs false

section
variable {I : Nat → Type} {P : Program} {T : Ty I} {w w' : World} {E E' : Nat → Nat} {φ : List Nat} {fr fr1 : Fr I} {H : Hp I} {R : Type} {out : R} {K : Kont I R} {o : Oper} {tm : Array Value} {D : Nat → Prop}

theorem wrap64_id {n : Int} (h0 : 0 ≤ n) (h1 : n < 140737488355329) : IntKind.i64.wrap n = n := IntWalk.i64_in n (by omega)

section
variable {a : Act} (hs : Sim T φ E w fr H a.tmps) (hok : TyOK P T)
include hs hok

theorem ok_makeSlice {t : TypeId} {s s' : Nat} (ho : o.op = .makeSlice t (.tmp s) (.tmp s'))
    (h : (if s = s' then
      (match P.underlying t, fr.get s with
       | some (.slice e), .y (.one (.int .i64 n)) =>
         (match (zeroOf P e : Option (List (C I))) with
          | some z => (match T.of e z with
            | some x => if 0 ≤ n then if n.toNat < most P e then K (.rs H.length e) fr (H ++ [.row e (List.replicate n.toNat x)]) else none else none
            | none => none)
          | none => none)
       | _, _ => none)
      else none) = some out) : Sound P T K out φ E w fr H a o := by
  split at h
  · rename_i hss
    subst hss
    split at h
    · rename_i q1 q2 e n hu hn
      split at h
      · rename_i z hz
        split at h
        · rename_i x hx
          split at h
          · rename_i h0
            split at h
            · rename_i h1
              obtain ⟨i, v, hi, hz2, hz3⟩ := zeroOf_some hz
              obtain ⟨z1, z2⟩ := zero_cells (T := T) (w := w) (E := E) (t := t) hz3
              obtain ⟨t1, t2⟩ := hok.of e z x hx
              obtain ⟨f1, f2⟩ := most_fits (P := P) hs hok (n := n.toNat) (e := e) (by omega)
              have hTb : bytesOfT P e = i.bytes := by unfold bytesOfT; rw [hi]; rfl
              have hTi : T.sz e = i.size := by rw [hok.sz, hi]; rfl
              have hv := ev_rep hs a.defers (.tmp s)
              have hvn : a.eval (.tmp s) = .int .i64 n := by
                have : ev T fr (.tmp s) = .y (.one (.int .i64 n)) := hn
                rw [this] at hv; exact rep_int hv
              have hw : IntKind.i64.wrap n = n := wrap64_id h0 (by omega)
              rw [hTb] at f1
              have hbn : (i.bytes : Int) * n ≤ 281474976710656 := by
                have : ((n.toNat * i.bytes : Nat) : Int) ≤ ((140737488355328 : Nat) : Int) := Int.ofNat_le.2 f1
                rw [Int.natCast_mul, Int.toNat_of_nonneg h0, Int.mul_comm] at this
                omega
              let arr : Array Value := if n.toNat * i.size = 0 then #[] else (Array.range (n.toNat * i.size)).map (v.cells[· % v.cells.size]!)
              have hrun : (execOp a.eval o).run P w = .ok (.value (.slice (some ⟨w.heap.size, 0, none⟩) n.toNat n.toNat)) (w.alloc (.cells arr e)) := by
                unfold execOp; rw [ho]
                have c1 : ¬ (n < 0) := by omega
                have e48 : (2 : Int) ^ 48 = 281474976710656 := by decide
                have c2 : ¬ ((i.bytes : Int) * n > 2 ^ 48) := by rw [e48]; omega
                have c3 : ¬ (n > n) := by omega
                simp only [Instr.makeSlice, Sem.run_bind, run_underlying hu, Result.andThen_ok, hvn, asInt, asIntOf, Sem.run_pure, typeInfo, run_program, hi, hw]
                simp only [c1, c2, c3, decide_false, Bool.or_self, Bool.false_eq_true, if_false, Sem.run_bind, run_askRoom, Result.andThen_ok, sizeOf, typeInfo, run_program, hi, Sem.run_pure, arr]
                by_cases q : n.toNat * i.size = 0
                · simp only [q, if_true, Sem.run_bind, Sem.run_pure, Result.andThen_ok, newRow, run_newObj, World.alloc_eq]
                  congr 3
                  simp
                · simp only [q, if_false, Sem.run_bind, run_zeroValue hi hz2, Sem.run_pure, Result.andThen_ok, newRow, run_newObj, World.alloc_eq]
              have hsz : arr.size = n.toNat * T.sz e := by
                rw [hTi]
                simp only [arr]
                split
                · rename_i q; rw [q]; rfl
                · simp
              refine ⟨_, _, _, _, _, _, _, h, .inl hrun, Res.obj hok hs hs (fun _ _ q => q) _ _ _ ?_ (fun cs e => by cases e) ⟨n.toNat, ?_, (Nat.eq_zero_or_pos n.toNat).elim (fun q => .inl ⟨q, some ⟨w.heap.size, 0, none⟩, by rw [q]⟩) (fun q => .inr ⟨w.heap.size, n.toNat, ptr_new φ _ hs.len, rfl, q, Nat.le_refl _, ⟨arr, e, alloc_here w arr e (0, 0), by rw [hsz]; exact Nat.le_refl _⟩⟩)⟩ rfl⟩
              · refine .inr ⟨arr, e, alloc_here w arr e (0, 0), by rw [hsz]; simp, fun k y hk j c hc => ?_⟩
                have hkl : k < n.toNat := by have q := (List.getElem?_eq_some_iff.1 hk).1; rw [List.length_replicate] at q; exact q
                have hy : y = x := by rw [List.getElem?_replicate, if_pos hkl] at hk; cases hk; rfl
                subst hy
                have hj : j < T.sz e := by rw [← hok.len e y]; exact (List.getElem?_eq_some_iff.1 hc).1
                have hjz : j < z.length := by rw [t1]; exact hj
                obtain ⟨hd, d, hd1, hd2⟩ := t2 j _ (List.getElem?_eq_getElem hjz)
                rw [hc] at hd1; cases hd1
                obtain ⟨u, hu2, hr⟩ := z2 j _ (List.getElem?_eq_getElem hjz)
                have hch := Ch.alloc w E hs.fresh (.cells arr e) (fun _ => False)
                refine ⟨u, ?_, RepC.ch hok.len (hd2 w E u hr) hch.ext hch.cells⟩
                have hlt : k * T.sz e + j < n.toNat * T.sz e := by
                  have : (k + 1) * T.sz e ≤ n.toNat * T.sz e := Nat.mul_le_mul_right _ hkl
                  rw [Nat.add_mul] at this; omega
                have hvs : v.cells.size = T.sz e := by rw [z1, t1]
                have hmod : (k * T.sz e + j) % v.cells.size = j := by rw [hvs, Nat.mul_comm, Nat.mul_add_mod]; exact Nat.mod_eq_of_lt hj
                simp only [arr]
                rw [if_neg (by rw [← hTi]; omega)]
                rw [hTi] at hlt
                simp only [Array.getElem?_map, Array.getElem?_range]
                rw [← hTi, if_pos (by rw [hTi]; rw [← hTi] at hlt ⊢; exact hlt)]
                simp only [Option.map_some]
                rw [hmod, getElem!_def, hu2]
              · unfold rowAt
                rw [List.getElem?_append_right (Nat.le_refl _)]
                simp
            · cases h
          · cases h
        · cases h
      · cases h
    · cases h
  · cases h

theorem castE_eq {e e' : Nat} {x : I e} {x' : I e'} (h : castE x = some x') : ∃ he : e = e', x' = he ▸ x := by
  unfold castE at h
  split at h
  · rename_i he; cases h; exact ⟨he, rfl⟩
  · cases h

theorem ok_appendOp {args : Array Operand} {ts : Array TypeId} {x y : Operand} {t u : TypeId} {e : Nat} {d : TypeDesc} (ho : o.op = .call { callee := .builtin .append, args := args, argTypes := ts }) (ha : args.toList = [x, y]) (hts : ts.toList = [t, u])
    (ht : P.underlying t = some (.slice e)) (hu : P.underlying u = some d) (hd : (∃ e2, d = .slice e2) ∨ d = .string)
    (h : Go.Proofs.YtgefikclhfjcgaaDoorEv.append P T e (ev T fr x) (ev T fr y) (fun c => K (.c c) (drop fr x) H) = some out) : Sound P T K out φ E w fr H a o := by
  have hy := ev_rep hs a.defers y
  unfold Go.Proofs.YtgefikclhfjcgaaDoorEv.append at h
  split at h
  · rename_i hz
    split at h
    · rename_i q1 q2 e0 l0 hx
      split at h
      · rename_i q3 q4 l m hl hm
        split at h
        · rename_i hlt
          obtain ⟨rfl, rfl⟩ := castL_eq hl
          have hsrc : Src P T w E e0 (a.eval y) m := by
            unfold itemsOf at hm
            split at hm
            · rename_i q5 s he
              rw [he] at hy
              split at hm
              · rename_i q hq
                cases hm
                obtain ⟨hsrc, hsl⟩ := str_first (P := P) (w := w) (E := E) hok (s := s) hq
                have hv : a.eval y = .string s := rep_str hy
                rw [← hv] at hsrc
                exact hsrc
              · cases hm
            · rename_i q5 d hnd he
              rw [he] at hy
              exact sl_first (P := P) hok (listOf_rep (φ := φ) hy hm)
            · cases hm
          exact ok_append_own hs hok ho ha hts ht hu hd hz hx hsrc hlt h
        · cases h
      · cases h
    · rename_i q1 q2 c e' z hnown hx he
      rw [he] at hy
      split at h
      · rename_i q3 q4 l z' hl hz'
        split at h
        · rename_i hlt
          obtain ⟨rfl, rfl⟩ := castE_eq hs hok hz'
          have hsrc := sl_first (P := P) hok hy.1
          exact ok_append hs hok ho ha hts ht hu hd hz hx hl hsrc (by simp; omega) h
        · cases h
      · cases h
    · rename_i q1 q2 c s hnown hx he
      rw [he] at hy
      split at h
      · rename_i q3 q4 l q hl hq
        split at h
        · rename_i hlt
          obtain ⟨hsrc, hsl⟩ := str_first (P := P) (w := w) (E := E) hok (s := s) hq
          have hv : a.eval y = .string s := rep_str hy
          rw [← hv] at hsrc
          exact ok_append hs hok ho ha hts ht hu hd hz hx hl hsrc (by rw [hsl]; omega) h
        · cases h
      · cases h
    · rename_i q1 q2 c d' hno hn1 hn2 hx he
      rw [he] at hy
      split at h
      · rename_i q3 q4 l m hl hm
        split at h
        · rename_i hlt
          exact ok_append hs hok ho ha hts ht hu hd hz hx hl (sl_first (P := P) hok (listOf_rep (φ := φ) hy hm)) (by omega) h
        · cases h
      · cases h
    · cases h
  · cases h

/-- Each operation that calls no Go function. -/
theorem evOp_ok {tk : Bool} {op : Op} (ho : o.op = op) (h : evOp P T tk fr H op K = some out) : Sound P T K out φ E w fr H a o := by
  cases op <;> simp only [evOp, reduceCtorEq] at h
  case move x => exact ok_move hs (.inl ho) h
  case assign x => exact ok_move hs (.inr ho) h
  case pick c x y => exact ok_pick hs ho h
  case alloc t => exact ok_alloc hs hok ho h
  case box t x => exact ok_box hs hok ho h
  case build t ps => exact ok_build hs hok ho h
  case buildSlice t n ps => exact ok_buildSlice hs hok ho h
  case load t x =>
    split at h
    · rename_i d hu; exact ok_load hs hok ho ⟨d, hu⟩ h
    · cases h
  case store t x v => exact ok_store hs hok ho h
  case nilCheck x => exact ok_nilCheck hs ho h
  case binOp op t x y yt => exact ok_binOp hs ho h
  case unOp op t x => exact ok_unOp hs ho h
  case convert s d x => exact ok_convert hs hok ho h
  case makeFunc fn first cs => cases fn <;> simp only [reduceCtorEq] at h; exact ok_makeFunc hs ho h
  case makeSlice t n m => cases n <;> cases m <;> simp only [reduceCtorEq] at h; exact ok_makeSlice hs hok ho h
  case makeMap t r =>
    cases r <;> simp only [evOp, reduceCtorEq] at h
    split at h
    · split at h
      · exact ok_makeMap hs hok ho h
      · cases h
    · cases h
  case lookup t m x ok => exact ok_lookup hs hok ho h
  case mapUpdate t m x v => exact ok_update hs hok ho h
  case slice t x lo hi mx => exact ok_slice hs hok ho h
  case fieldAddr s x f => exact ok_fieldAddr hs ho h
  case field t x f => exact ok_field hs ho h
  case indexAddr t x i => exact ok_indexAddr hs hok ho h
  case index t x i => exact ok_index hs ho h
  case extract t i => exact ok_extract hs ho h
  case call c =>
    obtain ⟨callee, args, ts⟩ := c
    cases callee <;> simp only [reduceCtorEq] at h
    rename_i b
    split at h
    · rename_i q1 q2 q3 x t ha ht
      exact ok_len hs hok ho ha ht h
    · rename_i q1 q2 q3 m x t u ha ht
      exact ok_delete hs hok ho ha ht h
    · rename_i q1 q2 q3 m t ha ht
      exact ok_clear hs hok ho ha ht h
    · rename_i q1 q2 q3 x y t u ha ht
      split at h
      · rename_i q4 q5 e e2 h1 h2
        exact ok_appendOp hs hok ho ha ht h1 h2 (.inl ⟨e2, rfl⟩) h
      · rename_i q4 q5 e h1 h2
        exact ok_appendOp hs hok ho ha ht h1 h2 (.inr rfl) h
      · cases h
    · cases h
end
end
end Go.Proofs.YtgefikclhfjcgaaDoorEv

namespace Go.Proofs.YtgefikclhfjcgaaDoorEv
open Go Go.RowKit
set_option linter.unusedVariables false
set_option linter.unusedSectionVars false
set_option linter.unusedSimpArgs false

def It.item : It → Item
  | ⟨1, _, .block id _⟩ => .inBlock id
  | ⟨2, _, .loop x⟩ => .inLoop x
  | ⟨3, _, .scope x⟩ => .inScope x
  | ⟨_, _, c⟩ => .code c

def child : Nat → Code → Option Code
  | 0, .seq x _ => some x
  | 1, .seq _ y => some y
  | 0, .cond _ x _ => some x
  | 1, .cond _ _ y => some y
  | 0, .block _ x => some x
  | 0, .loop x => some x
  | 0, .scope x => some x
  | _, _ => none
def sub (root : Code) : List Nat → Option Code
  | [] => some root
  | d :: p => (sub root p).bind (child d)
def Lies (root : Code) (k : List It) : Prop := ∀ it ∈ k, sub root it.path = some it.c

section
variable {I : Nat → Type} {P : Program} {T : Ty I} {w w' : World} {E E' : Nat → Nat} {φ φ' : List Nat} {fr fr1 : Fr I} {H H' : Hp I} {R : Type} {out : R} {K : Kont I R} {o : Oper} {tm : Array Value} {D : Nat → Prop}

theorem sameWays_eq : ∀ (a b : List Nat), sameWays a b = true → a = b
  | [], [], _ => rfl
  | a :: as, b :: bs, h => by
    simp only [sameWays, Bool.and_eq_true, beq_iff_eq] at h
    rw [h.1, sameWays_eq as bs h.2]
  | [], _ :: _, h => by cases h
  | _ :: _, [], h => by cases h

theorem sameTodo_eq {root : Code} : ∀ (a b : List It), sameTodo a b = true → Lies root a → Lies root b → a = b
  | [], [], _, _, _ => rfl
  | a :: as, b :: bs, h, ha, hb => by
    simp only [sameTodo, Bool.and_eq_true, beq_iff_eq] at h
    obtain ⟨⟨h1, h2⟩, h3⟩ := h
    have h2 := sameWays_eq _ _ h2
    have e1 := ha a (by simp)
    have e2 := hb b (by simp)
    rw [h2, e2] at e1
    have hc := Option.some.inj e1
    have : a = b := by cases a; cases b; simp_all
    rw [this, sameTodo_eq as bs h3 (fun x hx => ha x (by simp [hx])) (fun x hx => hb x (by simp [hx]))]
  | [], _ :: _, h, _, _ => by cases h
  | _ :: _, [], h, _, _ => by cases h

theorem lies_cons {root : Code} {it : It} {k : List It} : Lies root (it :: k) ↔ sub root it.path = some it.c ∧ Lies root k := by
  constructor
  · intro h; exact ⟨h it (by simp), fun x hx => h x (by simp [hx])⟩
  · rintro ⟨h1, h2⟩ x hx
    rcases List.mem_cons.1 hx with rfl | hx
    · exact h1
    · exact h2 x hx

theorem todoAt_lies {root : Code} {id : Nat} : ∀ (c : Code) (p : List Nat) (k k' : List It), sub root p = some c → Lies root k → todoAt id c p k = some k' → Lies root k'
  | .seq x y, p, k, k', hc, hk, h => by
    simp only [todoAt] at h
    have hx : sub root (0 :: p) = some x := by simp [sub, hc, child]
    have hy : sub root (1 :: p) = some y := by simp [sub, hc, child]
    cases h1 : todoAt id x (0 :: p) (⟨0, 1 :: p, y⟩ :: k) with
    | some k1 => rw [h1] at h; cases h; exact todoAt_lies x _ _ _ hx (lies_cons.2 ⟨hy, hk⟩) h1
    | none => rw [h1] at h; exact todoAt_lies y _ _ _ hy hk h
  | .cond c x y, p, k, k', hc, hk, h => by
    simp only [todoAt] at h
    have hx : sub root (0 :: p) = some x := by simp [sub, hc, child]
    have hy : sub root (1 :: p) = some y := by simp [sub, hc, child]
    cases h1 : todoAt id x (0 :: p) k with
    | some k1 => rw [h1] at h; cases h; exact todoAt_lies x _ _ _ hx hk h1
    | none => rw [h1] at h; exact todoAt_lies y _ _ _ hy hk h
  | .block j x, p, k, k', hc, hk, h => todoAt_lies x (0 :: p) (⟨1, p, .block j x⟩ :: k) k' (by simp [sub, hc, child]) (lies_cons.2 ⟨hc, hk⟩) h
  | .loop x, p, k, k', hc, hk, h => todoAt_lies x (0 :: p) (⟨2, p, .loop x⟩ :: k) k' (by simp [sub, hc, child]) (lies_cons.2 ⟨hc, hk⟩) h
  | .scope x, p, k, k', hc, hk, h => todoAt_lies x (0 :: p) (⟨3, p, .scope x⟩ :: k) k' (by simp [sub, hc, child]) (lies_cons.2 ⟨hc, hk⟩) h
  | .region j ops d, p, k, k', hc, hk, h => by
    simp only [todoAt] at h
    split at h
    · cases h; exact lies_cons.2 ⟨hc, hk⟩
    · cases h
  | .skip, _, _, _, _, _, h => by cases h
  | .rangeFunc .., _, _, _, _, _, h => by cases h
  | .exit _, _, _, _, _, _, h => by cases h
  | .label _, _, _, _, _, _, h => by cases h
  | .goto _, _, _, _, _, _, h => by cases h
  | .ret, _, _, _, _, _, h => by cases h
  | .refuse _, _, _, _, _, _, h => by cases h

theorem exitTo_item {id : Nat} : ∀ (k k' : List It), Go.Proofs.YtgefikclhfjcgaaDoorEv.exitTo id k = some k' → Go.exitTo id (k.map It.item) = some (k'.map It.item) ∧ ∀ x ∈ k', x ∈ k
  | [], k', h => by cases h
  | ⟨tag, p, c⟩ :: k, k', h => by
    unfold Go.Proofs.YtgefikclhfjcgaaDoorEv.exitTo at h
    split at h
    · rename_i q1 q2 id' q3 k1 e
      cases e
      split at h
      · rename_i he
        cases h
        exact ⟨by simp [It.item, Go.exitTo, he], fun x hx => by simp [hx]⟩
      · rename_i he
        obtain ⟨h1, h2⟩ := exitTo_item _ _ h
        exact ⟨by simp [It.item, Go.exitTo, he, h1], fun x hx => by simp [h2 x hx]⟩
    · rename_i q1 it k1 hn e
      cases e
      obtain ⟨h1, h2⟩ := exitTo_item _ _ h
      refine ⟨?_, fun x hx => by simp [h2 x hx]⟩
      rw [List.map_cons]
      have : ∀ j, It.item ⟨tag, p, c⟩ ≠ .inBlock j := by
        intro j hj
        unfold It.item at hj
        split at hj <;> first | (cases hj; done) | (rename_i e; cases e; first | exact hn _ _ _ _ rfl rfl | exact hn _ _ _ rfl | exact hn _ _ _ _ rfl | exact hn _ _ rfl | exact hn _ rfl)
      cases hI : It.item ⟨tag, p, c⟩ <;> first | exact absurd hI (this _) | simpa [Go.exitTo] using h1
    · rename_i e; cases e

/-- From here on the machine comes to the function's return. -/
def Good (P : Program) (f : FuncId) (todo : List Item) (a : Act) (w : World) (Φ : Value → World → Prop) : Prop :=
  ∀ (b : Frame) (cs : List Frame), b.fn = f → b.kind = .normal → ∃ v w' fr', Φ v w' ∧ Steps P (lone (b.at a todo) cs w) (lone fr' cs w') ∧ fr'.fn = f ∧ fr'.leaving P w' (.returned v)

theorem Good.go {f : FuncId} {todo todo' : List Item} {a : Act} {Φ : Value → World → Prop} (h : Good P f todo' a w Φ) (hst : ∀ (b : Frame) (cs : List Frame), step P (lone (b.at a todo) cs w) = .next (lone (b.at a todo') cs w)) : Good P f todo a w Φ := by
  intro b cs hb hk
  obtain ⟨v, w', fr', h1, h2, h3⟩ := h b cs hb hk
  exact ⟨v, w', fr', h1, .head (hst b cs) h2, h3⟩

theorem Good.ret {f : FuncId} {fn : Func} {todo : List Item} {a : Act} {Φ : Value → World → Prop} {v : Value} (hf : P.funcs[f]? = some fn) (hd : a.defers = []) (hr : (results fn a.tmps).run P w = .ok v w) (hΦ : Φ v w)
    (hst : ∀ (b : Frame) (cs : List Frame), step P (lone (b.at a todo) cs w) = .next (lone { b.at a todo with mode := .returning } cs w)) : Good P f todo a w Φ := by
  intro b cs hb hk
  refine ⟨v, w, { b.at a todo with mode := .returning }, hΦ, .one (hst b cs), hb, rfl, hd, hk, fn, ?_, hr⟩
  show P.funcs[b.fn]? = some fn
  rw [hb]; exact hf

theorem Good.region {f : FuncId} {id : Nat} {ops : Array Oper} {k : List Item} {a : Act} {Φ : Value → World → Prop}
    (h : wpOps P ops (fun e a w => e = .normal ∧ Good P f k a w Φ) (List.range ops.size) a w) : Good P f (.code (.region id ops false) :: k) a w Φ := by
  intro b cs hb hk
  obtain ⟨e, a', w1, ⟨he, hg⟩, harr⟩ := wp_ops _ a w h b k cs
  subst he
  obtain ⟨v, w', fr', h1, h2, h3⟩ := hg b cs hb hk
  exact ⟨v, w', fr', h1, .head step_region (Steps.trans harr h2), h3⟩

theorem Good.draw {f : FuncId} {id : Nat} {ops : Array Oper} {k : List Item} {a : Act} {Φ : Value → World → Prop}
    (h : ∀ t, wpOps P ops (fun e a w => e = .normal ∧ Good P f k a w Φ) (Region.schedule (P.follows .mixedOrders) ops t) a w.drew) : Good P f (.code (.region id ops true) :: k) a w Φ := by
  intro b cs hb hk
  obtain ⟨e, a', w1, ⟨he, hg⟩, harr⟩ := wp_ops _ a _ (h (w.tape w.drawn (.order b.fn id))) b k cs
  subst he
  obtain ⟨v, w', fr', h1, h2, h3⟩ := hg b cs hb hk
  exact ⟨v, w', fr', h1, .head step_region_draw (Steps.trans harr h2), h3⟩
end
end Go.Proofs.YtgefikclhfjcgaaDoorEv

namespace Go.Proofs.YtgefikclhfjcgaaDoorEv
open Go Go.RowKit
set_option linter.unusedVariables false
set_option linter.unusedSectionVars false
set_option linter.unusedSimpArgs false

section
variable {I : Nat → Type} (P : Program) (T : Ty I)

/-- What a call comes to: its value, the variables then. -/
structure Fin (ids : List Nat) (φ : List Nat) (E : Nat → Nat) (w : World) (args : List (X I)) (H : Hp I) (vs : Array Value) (v : Value) (x : X I) (φ' : List Nat) (E' : Nat → Nat) (w' : World) (H' : Hp I) : Prop where
  sim : Sim T φ' E' w' [x] H' #[v]
  ch : Ch (OwnS (· ∈ ids) φ H w args vs) w E w' E'
  own : ∀ b, Own φ' H' w' [x] #[v] b → Own φ H w args vs b ∨ w.heap.size ≤ b
  pre : ∀ (o b : Nat), φ[o]? = some b → φ'[o]? = some b
  rows : ∀ o r, rowAt H o = some r → rowAt H' o = some r

def CallOK (g : Nat) (ids : List Nat) (args : List (X I)) (H : Hp I) (x : X I) (H' : Hp I) : Prop :=
  ∀ (φ : List Nat) (E : Nat → Nat) (w : World) (vs : Array Value), vs.size = args.length → Sim T φ E w args H vs →
    Calls P g vs w fun e w' => ∃ v φ' E', e = .returned v ∧ Fin T ids φ E w args H vs v x φ' E' w' H'

/-- The variables that a call may write. -/
def callWr {R : Type} (env : Env I R) (fr : Fr I) (o : Oper) (i : Nat) : Prop :=
  ∃ f args ts g caps e, o.op = .call { callee := .value f, args := args, argTypes := ts } ∧ ev T fr f = .fn g caps ∧ env.fn g = some e ∧ i ∈ e.ids (argsOf T fr e.own 0 args.toList ++ caps.map fun c => X.c c.weak)

/-- A function with a body of its own. -/
def Enters (g : Nat) : Prop := ∃ fn, P.funcs[g]? = some fn ∧ fn.name ≠ "runtime.NumGoroutine" ∧ fn.body.isSome = true

structure EnvOK {R : Type} (env : Env I R) : Prop where
  enters : ∀ g e, env.fn g = some e → Enters P g
  call : ∀ g e args H (k : X I → Hp I → Option R) out, env.fn g = some e → env.call g args H k = some out → ∃ x H', k x H' = some out ∧ CallOK P T g (e.ids args) args H x H'
end

section
variable {I : Nat → Type} {P : Program} {T : Ty I} {w w' : World} {E E' : Nat → Nat} {φ φ' : List Nat} {fr fr1 : Fr I} {H H' : Hp I} {R : Type} {out : R} {K : Kont I R} {o : Oper} {tm : Array Value} {D S : Nat → Prop}

theorem argsOf_get (own : List Nat) : ∀ (args : List Operand) (j k : Nat), (argsOf T fr own j args)[k]? = (args[k]?).map fun x => if own.contains (j + k) then ev T fr x else (ev T fr x).weak
  | [], j, k => by simp [argsOf]
  | x :: xs, j, k => by
    cases k with
    | zero => simp [argsOf]
    | succ k => simp only [argsOf, List.getElem?_cons_succ]; rw [argsOf_get own xs (j + 1) k, show j + 1 + k = j + (k + 1) by omega]

theorem argsOf_length (own : List Nat) : ∀ (args : List Operand) (j : Nat), (argsOf T fr own j args).length = args.length
  | [], _ => rfl
  | _ :: xs, j => by simp [argsOf, argsOf_length own xs (j + 1)]

theorem dropArgs_sim (own : List Nat) : ∀ (args : List Operand) (j : Nat) (fr : Fr I), Sim T φ E w fr H tm → Sim T φ E w (dropArgs fr own j args) H tm ∧
    (∀ i b, tokOf φ H w (dropArgs fr own j args) tm i = some b → tokOf φ H w fr tm i = some b ∧ ∀ k t, args[k]? = some (.tmp t) → own.contains (j + k) = true → t < fr.length → i ≠ .slot t)
  | [], j, fr, h => ⟨h, fun i b q => ⟨q, fun k t e => by simp at e⟩⟩
  | x :: xs, j, fr, h => by
    simp only [dropArgs]
    split
    · rename_i ho
      obtain ⟨h1, h2⟩ := dropArgs_sim own xs (j + 1) _ (drop_sim h x)
      refine ⟨h1, fun i b q => ?_⟩
      obtain ⟨q1, q2⟩ := h2 i b q
      obtain ⟨q3, q4⟩ := drop_tok x q1
      have hl : (drop fr x).length = fr.length := by cases x <;> simp [drop, Fr.put]
      refine ⟨q3, fun k t e hk ht => ?_⟩
      cases k with
      | zero => simp at e; exact q4 t e ht
      | succ k => exact q2 k t (by simpa using e) (by rw [show j + 1 + k = j + (k + 1) by omega]; exact hk) (by rw [hl]; exact ht)
    · rename_i ho
      obtain ⟨h1, h2⟩ := dropArgs_sim own xs (j + 1) fr h
      refine ⟨h1, fun i b q => ?_⟩
      obtain ⟨q1, q2⟩ := h2 i b q
      refine ⟨q1, fun k t e hk ht => ?_⟩
      cases k with
      | zero => exact absurd hk ho
      | succ k => exact q2 k t (by simpa using e) (by rw [show j + 1 + k = j + (k + 1) by omega]; exact hk) ht

theorem ownTmps_mem (own : List Nat) : ∀ (args : List Operand) (j k t : Nat), args[k]? = some (.tmp t) → own.contains (j + k) = true → t ∈ ownTmps own j args
  | [], _, _, _, h, _ => by simp at h
  | x :: xs, j, 0, t, h, ho => by simp at h; subst h; simp only [ownTmps, Nat.add_zero] at ho ⊢; rw [ho]; simp
  | x :: xs, j, k + 1, t, h, ho => by
    simp only [ownTmps, List.mem_append]
    exact .inr (ownTmps_mem own xs (j + 1) k t (by simpa using h) (by rw [show j + 1 + k = j + (k + 1) by omega]; exact ho))

theorem ownTmps_once (own : List Nat) : ∀ (args : List Operand) (j k k' t : Nat), twice (ownTmps own j args) = false → args[k]? = some (.tmp t) → args[k']? = some (.tmp t) → own.contains (j + k) = true → own.contains (j + k') = true → k = k'
  | [], _, _, _, _, _, h, _, _, _ => by simp at h
  | x :: xs, j, k, k', t, hn, h, h', ho, ho' => by
    have hrest : twice (ownTmps own (j + 1) xs) = false := by
      simp only [ownTmps] at hn
      cases x with
      | tmp s =>
        simp only at hn
        split at hn
        · simp only [List.cons_append, List.nil_append, twice, Bool.or_eq_false_iff] at hn; exact hn.2
        · simpa using hn
      | _ => simpa using hn
    have hhead : ∀ k, xs[k]? = some (.tmp t) → own.contains (j + 1 + k) = true → x = .tmp t → own.contains (j + 0) = true → False := by
      intro k hk hok hx ho0
      subst hx
      rw [Nat.add_zero] at ho0
      simp only [ownTmps, ho0, if_true, List.cons_append, List.nil_append, twice, Bool.or_eq_false_iff] at hn
      have := ownTmps_mem own xs (j + 1) k t hk hok
      have h2 := hn.1
      simp at h2
      exact h2 this
    cases k with
    | zero =>
      cases k' with
      | zero => rfl
      | succ k' => exact (hhead k' (by simpa using h') (by rw [show j + 1 + k' = j + (k' + 1) by omega]; exact ho') (by simpa using h) ho).elim
    | succ k =>
      cases k' with
      | zero => exact (hhead k (by simpa using h) (by rw [show j + 1 + k = j + (k + 1) by omega]; exact ho) (by simpa using h') ho').elim
      | succ k' =>
        rw [ownTmps_once own xs (j + 1) k k' t hrest (by simpa using h) (by simpa using h') (by rw [show j + 1 + k = j + (k + 1) by omega]; exact ho) (by rw [show j + 1 + k' = j + (k' + 1) by omega]; exact ho')]

section
variable {a : Act} (hs : Sim T φ E w fr H a.tmps) (hok : TyOK P T)
include hs hok

/-- The arguments of a call, as a state of their own. -/
theorem args_sim {own : List Nat} {args : List Operand} {caps : List (C I)} {cv : Array Value} (hn : twice (ownTmps own 0 args) = false) (hcs : cv.size = caps.length) (hc : ∀ (j : Nat) c, caps[j]? = some c → ∃ u, cv[j]? = some u ∧ RepT T φ w E u c.weak) :
    Sim T φ E w (argsOf T fr own 0 args ++ caps.map fun c => X.c c.weak) H ((args.map a.eval).toArray ++ cv) ∧
    (∀ i b, tokOf φ H w (argsOf T fr own 0 args ++ caps.map fun c => X.c c.weak) ((args.map a.eval).toArray ++ cv) i = some b →
      (∃ o j, i = .cell o j ∧ tokOf φ H w fr a.tmps (.cell o j) = some b) ∨ ∃ k t, i = .slot k ∧ args[k]? = some (.tmp t) ∧ own.contains k = true ∧ tokOf φ H w fr a.tmps (.slot t) = some b) := by
  have hlen : (argsOf T fr own 0 args).length = args.length := argsOf_length own args 0
  have hslot : ∀ k, (∃ x, args[k]? = some x ∧ Fr.get (argsOf T fr own 0 args ++ caps.map fun c => X.c c.weak) k = (if own.contains k then ev T fr x else (ev T fr x).weak) ∧ ((args.map a.eval).toArray ++ cv).getD k undef = a.eval x) ∨
      (∃ (c : C I) (u : Value), Fr.get (argsOf T fr own 0 args ++ caps.map fun c => X.c c.weak) k = X.c c.weak ∧ ((args.map a.eval).toArray ++ cv).getD k undef = u ∧ RepT T φ w E u c.weak) ∨ Fr.get (argsOf T fr own 0 args ++ caps.map fun c => X.c c.weak) k = .dead := by
    intro k
    simp only [Fr.get, List.getD_eq_getElem?_getD, Array.getD_eq_getD_getElem?]
    rcases Nat.lt_or_ge k args.length with h | h
    · left
      refine ⟨args[k], List.getElem?_eq_getElem h, ?_, ?_⟩
      · rw [List.getElem?_append_left (by omega), argsOf_get, List.getElem?_eq_getElem h]
        simp
      · rw [Array.getElem?_append_left (by simpa using h)]
        simp [h]
    · rw [List.getElem?_append_right (by omega), hlen, Array.getElem?_append_right (by simpa using h)]
      simp only [List.getElem?_map, List.size_toArray, List.length_map]
      cases hcc : caps[k - args.length]? with
      | none => right; right; rfl
      | some c =>
        obtain ⟨u, hu, hr⟩ := hc _ c hcc
        right; left
        exact ⟨c, u, rfl, by rw [hu]; rfl, hr⟩
  have htok : ∀ i b, tokOf φ H w (argsOf T fr own 0 args ++ caps.map fun c => X.c c.weak) ((args.map a.eval).toArray ++ cv) i = some b →
      (∃ o j, i = .cell o j ∧ tokOf φ H w fr a.tmps (.cell o j) = some b) ∨ ∃ k t, i = .slot k ∧ args[k]? = some (.tmp t) ∧ own.contains k = true ∧ tokOf φ H w fr a.tmps (.slot t) = some b := by
    intro i b hb
    cases i with
    | cell o j => exact .inl ⟨o, j, rfl, hb⟩
    | slot k =>
      right
      simp only [tokOf] at hb
      rcases hslot k with ⟨x, h1, h2, h3⟩ | ⟨c, u, h2, h3, _⟩ | h2
      · rw [h2, h3] at hb
        split at hb
        · rename_i hown
          obtain ⟨_, _, _, ho⟩ := drop_free hs a.defers x hb
          cases x with
          | tmp t => exact ⟨k, t, rfl, h1, hown, hb⟩
          | const v =>
            simp only [ev, Act.eval] at hb
            cases hy : (yOf v : Option (Y I)) with
            | none => rw [hy] at hb; cases hb
            | some y =>
              rw [hy] at hb
              have := (yOf_rep (T := T) (φ := φ) (w := w) (E := E) hy).2
              simp only [Option.map_some, Option.getD_some] at hb
              rw [this] at hb; cases hb
          | global g =>
            simp only [ev, Act.eval] at hb
            cases hg : T.glob g with
            | none => rw [hg] at hb; cases hb
            | some x => obtain ⟨e, l, hx, hr⟩ := hs.glob g x hg; rw [hg, hx] at hb; cases hb
          | func f => cases hb
        · rw [tokX_weakX] at hb; cases hb
      · rw [h2] at hb; cases hb' : tokX (((args.map a.eval).toArray ++ cv).getD k undef) (X.c c.weak) with
        | none => rw [hb'] at hb; cases hb
        | some q => have : tokC (((args.map a.eval).toArray ++ cv).getD k undef) c.weak = some q := hb'
                    rw [tokC_weak] at this; cases this
      · rw [h2] at hb; cases hb
  refine ⟨{ len := hs.len, objs := hs.objs, slots := ?_, flen := ?_, inj := hs.inj, zero := hs.zero, fresh := hs.fresh, tinj := ?_, tobj := ?_, tlt := ?_, glob := hs.glob }, htok⟩
  · intro k
    rcases hslot k with ⟨x, h1, h2, h3⟩ | ⟨c, u, h2, h3, h4⟩ | h2
    · rw [h2, h3]
      split
      · exact ev_rep hs a.defers x
      · exact (ev_rep hs a.defers x).weak
    · rw [h2, h3]; exact h4
    · rw [h2]; trivial
  · simp [hlen, hcs]
  · intro i j b hi hj
    rcases htok i b hi with ⟨o, q, rfl, k1⟩ | ⟨k, t, rfl, e1, o1, k1⟩ <;> rcases htok j b hj with ⟨o', q', rfl, k2⟩ | ⟨k', t', rfl, e2, o2, k2⟩
    · exact hs.tinj _ _ b k1 k2
    · have := hs.tinj _ _ b k1 k2; cases this
    · have := hs.tinj _ _ b k1 k2; cases this
    · have := hs.tinj _ _ b k1 k2
      cases this
      rw [ownTmps_once own args 0 k k' t hn e1 e2 (by simpa using o1) (by simpa using o2)]
  · intro i b o hi
    rcases htok i b hi with ⟨o', q, rfl, k1⟩ | ⟨k, t, rfl, e1, o1, k1⟩
    · exact hs.tobj _ b o k1
    · exact hs.tobj _ b o k1
  · intro i b hi
    rcases htok i b hi with ⟨o', q, rfl, k1⟩ | ⟨k, t, rfl, e1, o1, k1⟩
    · exact hs.tlt _ b k1
    · exact hs.tlt _ b k1

/-- A call of a Go function. -/
theorem ok_call {env : Env I R} (henv : EnvOK P T env) {f : Operand} {args : Array Operand} {ts : Array TypeId} {next : Act → World → Prop} {Q : Exit → Act → World → Prop}
    (ho : o.op = .call { callee := .value f, args := args, argTypes := ts }) (h : evCall T env fr H f args.toList K = some out)
    (hnext : ∀ v x φ' E' w' fr' H', K x fr' H' = some out → Res T (callWr T env fr o) φ E w fr H a.tmps v x φ' E' w' fr' H' → next (a.put o.dst v) w') : o.wp P a w next Q := by
  unfold evCall at h
  split at h
  · rename_i g caps hf
    split at h
    · rename_i e he
      split at h
      · cases h
      · rename_i htw
        obtain ⟨x, H', hk, hcall⟩ := henv.call _ _ _ _ _ _ he h
        obtain ⟨fn, hfn, hnm, hbd⟩ := henv.enters g e he
        have hfr := ev_rep hs a.defers f
        rw [hf] at hfr
        obtain ⟨cv, hfv', hcs, hcv⟩ := hfr
        have hfv : a.eval f = .func (.func g) #[] cv := hfv'
        have htw' : twice (ownTmps e.own 0 args.toList) = false := by simpa using htw
        obtain ⟨s1, s2⟩ := args_sim hs hok (own := e.own) (args := args.toList) htw' hcs hcv
        have hrun : (execOp a.eval o).run P w = .ok (.enter g ((args.toList.map a.eval).toArray ++ cv)) w := by
          unfold execOp; rw [ho]
          have hbn : fn.body.isNone = false := by cases hb : fn.body <;> simp_all
          have hnm' : (fn.name == "runtime.NumGoroutine") = false := by simpa using hnm
          have hargs : (#[] ++ args.map a.eval) = (args.toList.map a.eval).toArray := by apply Array.ext'; simp
          simp only [resolve, hfv, Deferred.ofValue, Sem.run_bind, Sem.run_pure, Result.andThen_ok, invoke, callFunc, run_program, hfn, hnm', hbn, Bool.false_eq_true, if_false, hargs]
        show o.upon P a next Q ((execOp a.eval o).run P w)
        rw [hrun]
        show Calls P g _ w _
        refine (hcall φ E w _ (by simp [argsOf_length, hcs]) s1).mono ?_
        rintro en w' ⟨v, φ', E', rfl, hfin⟩
        refine hnext v x φ' E' w' _ H' hk ?_
        obtain ⟨d1, d2⟩ := dropArgs_sim (T := T) (E := E) e.own args.toList 0 fr hs
        -- what the caller keeps a right to, the callee doesn't hold
        have hsep : ∀ i b, tokOf φ H w (dropArgs fr e.own 0 args.toList) a.tmps i = some b → (∃ t, i = .slot t) → ¬ Own φ H w (argsOf T fr e.own 0 args.toList ++ caps.map fun c => X.c c.weak) ((args.toList.map a.eval).toArray ++ cv) b := by
          rintro i b hb ⟨t, rfl⟩ hown
          obtain ⟨q1, q2⟩ := d2 _ b hb
          rcases hown with ⟨o', ql, q⟩ | ⟨i', q⟩
          · exact hs.tobj _ b o' q1 ql q
          · rcases s2 i' b q with ⟨o', j, rfl, k1⟩ | ⟨k, t', rfl, e1, o1, k1⟩
            · have := hs.tinj _ _ b q1 k1; cases this
            · have := hs.tinj _ _ b q1 k1
              cases this
              refine q2 k t e1 (by simpa using o1) ?_ rfl
              rcases Nat.lt_or_ge t fr.length with p | p
              · exact p
              · simp only [tokOf] at q1; rw [get_ge fr t p] at q1; cases q1
        have hargown : ∀ b, Own φ H w (argsOf T fr e.own 0 args.toList ++ caps.map fun c => X.c c.weak) ((args.toList.map a.eval).toArray ++ cv) b → Own φ H w fr a.tmps b := by
          rintro b (q | ⟨i, q⟩)
          · exact .inl q
          · rcases s2 i b q with ⟨o', j, rfl, k1⟩ | ⟨k, t', rfl, e1, o1, k1⟩
            · exact .inr ⟨_, k1⟩
            · exact .inr ⟨_, k1⟩
        have hargS : ∀ b, OwnS (· ∈ e.ids (argsOf T fr e.own 0 args.toList ++ caps.map fun c => X.c c.weak)) φ H w (argsOf T fr e.own 0 args.toList ++ caps.map fun c => X.c c.weak) ((args.toList.map a.eval).toArray ++ cv) b → OwnS (callWr T env fr o) φ H w fr a.tmps b := by
          rintro b (⟨o', q1, ql, q⟩ | ⟨i, q⟩)
          · exact .inl ⟨o', ⟨f, args, ts, g, caps, e, ho, hf, he, q1⟩, ql, q⟩
          · rcases s2 i b q with ⟨o', j, rfl, k1⟩ | ⟨k, t', rfl, e1, o1, k1⟩
            · exact .inr ⟨_, k1⟩
            · exact .inr ⟨_, k1⟩
        have hslt : ∀ t b, tokOf φ H w (dropArgs fr e.own 0 args.toList) a.tmps (.slot t) = some b → b < w.heap.size := fun t b q => d1.tlt _ b q
        have hnew : ∀ i b, tokOf φ' H' w' (dropArgs fr e.own 0 args.toList) a.tmps i = some b → (∃ t, i = .slot t ∧ tokOf φ H w (dropArgs fr e.own 0 args.toList) a.tmps i = some b) ∨ (∃ o j, i = .cell o j ∧ tokOf φ' H' w' [x] #[v] i = some b) := by
          intro i b q
          cases i with
          | slot t => exact .inl ⟨t, rfl, q⟩
          | cell o' j => exact .inr ⟨o', j, rfl, q⟩
        have hapart : ∀ t b i, tokOf φ H w (dropArgs fr e.own 0 args.toList) a.tmps (.slot t) = some b → tokOf φ' H' w' [x] #[v] i = some b → False := by
          intro t b i q1 q2
          rcases hfin.own b (.inr ⟨i, q2⟩) with p | p
          · exact hsep _ b q1 ⟨t, rfl⟩ p
          · have := hslt t b q1; omega
        refine { sim := ?_, rep := ?_, free := ?_, ch := hfin.ch.mono (fun b _ q => hargS b q), own := ?_, pre := hfin.pre, rows := hfin.rows }
        · refine { len := hfin.sim.len, objs := hfin.sim.objs, slots := ?_, flen := ?_, inj := hfin.sim.inj, zero := hfin.sim.zero, fresh := hfin.sim.fresh, tinj := ?_, tobj := ?_, tlt := ?_, glob := hfin.sim.glob }
          · intro t
            exact (d1.slots t).ch hok.len hfin.ch hfin.pre hfin.rows (fun b q p => hsep (.slot t) b q ⟨t, rfl⟩ p.own) (fun b q => d1.tlt (.slot t) b q)
          · exact d1.flen
          · intro i j b hi hj
            rcases hnew i b hi with ⟨t, rfl, k1⟩ | ⟨o1, j1, rfl, k1⟩ <;> rcases hnew j b hj with ⟨t', rfl, k2⟩ | ⟨o2, j2, rfl, k2⟩
            · exact d1.tinj _ _ b k1 k2
            · exact (hapart t b _ k1 k2).elim
            · exact (hapart t' b _ k2 k1).elim
            · exact hfin.sim.tinj _ _ b k1 k2
          · intro i b o' hi hlv ho'
            rcases hnew i b hi with ⟨t, rfl, k1⟩ | ⟨o1, j1, rfl, k1⟩
            · rcases hfin.own b (.inl ⟨o', hlv, ho'⟩) with p | p
              · exact hsep _ b k1 ⟨t, rfl⟩ p
              · have := hslt t b k1; omega
            · exact hfin.sim.tobj _ b o' k1 hlv ho'
          · intro i b hi
            rcases hnew i b hi with ⟨t, rfl, k1⟩ | ⟨o1, j1, rfl, k1⟩
            · exact Nat.lt_of_lt_of_le (hslt t b k1) hfin.ch.size
            · exact hfin.sim.tlt _ b k1
        · exact hfin.sim.slots 0
        · intro b q
          have q0 : tokOf φ' H' w' [x] #[v] (.slot 0) = some b := q
          refine ⟨fun i hi => ?_, fun o' => hfin.sim.tobj _ b o' q0, hfin.sim.tlt _ b q0⟩
          rcases hnew i b hi with ⟨t, rfl, k1⟩ | ⟨o1, j1, rfl, k1⟩
          · exact hapart t b _ k1 q0
          · have := hfin.sim.tinj _ _ b k1 q0; cases this
        · intro b q
          have key : Own φ' H' w' [x] #[v] b → Own φ H w fr a.tmps b ∨ w.heap.size ≤ b := fun p => (hfin.own b p).imp (hargown b) id
          rcases q with (q | ⟨i, q⟩) | q
          · exact key (.inl q)
          · rcases hnew i b q with ⟨t, rfl, k1⟩ | ⟨o1, j1, rfl, k1⟩
            · exact .inl (.inr ⟨_, (d2 _ b k1).1⟩)
            · exact key (.inr ⟨_, k1⟩)
          · exact key (.inr ⟨.slot 0, q⟩)
    · cases h
  · cases h
end
end
end Go.Proofs.YtgefikclhfjcgaaDoorEv

namespace Go.Proofs.YtgefikclhfjcgaaDoorEv
open Go Go.RowKit
set_option linter.unusedVariables false
set_option linter.unusedSectionVars false
set_option linter.unusedSimpArgs false

section
variable {I : Nat → Type} {P : Program} {T : Ty I} {w w' : World} {E E' : Nat → Nat} {φ φ' : List Nat} {fr fr1 : Fr I} {H H' : Hp I} {R : Type} {out : R} {K : Kont I R} {o : Oper} {tm : Array Value} {D S : Nat → Prop}

/-- From one state to a later one. -/
structure Rel (φ : List Nat) (E : Nat → Nat) (w : World) (fr : Fr I) (H : Hp I) (tm : Array Value) (φ' : List Nat) (E' : Nat → Nat) (w' : World) (fr' : Fr I) (H' : Hp I) (tm' : Array Value) : Prop where
  ch : Ch (Own φ H w fr tm) w E w' E'
  own : ∀ b, Own φ' H' w' fr' tm' b → Own φ H w fr tm b ∨ w.heap.size ≤ b
  pre : ∀ (o b : Nat), φ[o]? = some b → φ'[o]? = some b
  rows : ∀ o r, rowAt H o = some r → rowAt H' o = some r

theorem Rel.refl (h : Sim T φ E w fr H tm) : Rel φ E w fr H tm φ E w fr H tm :=
  ⟨Ch.refl w E h.fresh _, fun _ q => .inl q, fun _ _ q => q, fun _ _ q => q⟩

theorem Rel.trans {φ1 φ2 φ3 : List Nat} {E1 E2 E3 : Nat → Nat} {w1 w2 w3 : World} {fr1 fr2 fr3 : Fr I} {H1 H2 H3 : Hp I} {t1 t2 t3 : Array Value}
    (h : Rel φ1 E1 w1 fr1 H1 t1 φ2 E2 w2 fr2 H2 t2) (k : Rel φ2 E2 w2 fr2 H2 t2 φ3 E3 w3 fr3 H3 t3) : Rel φ1 E1 w1 fr1 H1 t1 φ3 E3 w3 fr3 H3 t3 where
  ch := h.ch.trans k.ch (fun b hb q => (h.own b q).resolve_right (by omega))
  own b q := by
    rcases k.own b q with q | q
    · exact h.own b q
    · exact .inr (Nat.le_trans h.ch.size q)
  pre o b q := k.pre o b (h.pre o b q)
  rows o r q := k.rows o r (h.rows o r q)

/-- An operation's value, laid into its slot. -/
theorem Res.put {fr' : Fr I} {v : Value} {x : X I} (h : Res T S φ E w fr H tm v x φ' E' w' fr' H') (d : Option Nat) :
    Sim T φ' E' w' (putD fr' d x) H' (match d with | some t => tm.setIfInBounds t v | none => tm) ∧ Rel φ E w fr H tm φ' E' w' (putD fr' d x) H' (match d with | some t => tm.setIfInBounds t v | none => tm) := by
  cases d with
  | none =>
    exact ⟨h.sim, ⟨h.ch.mono (fun _ _ p => p.own), fun b q => h.own b (.inl q), h.pre, h.rows⟩⟩
  | some t =>
    have hs := h.sim.put t v x h.rep h.free
    refine ⟨hs, ⟨h.ch.mono (fun _ _ p => p.own), fun b q => ?_, h.pre, h.rows⟩⟩
    rcases q with q | ⟨i, q⟩
    · exact h.own b (.inl (.inl q))
    · cases i with
      | cell o' j => exact h.own b (.inl (.inr ⟨.cell o' j, q⟩))
      | slot s =>
        simp only [tokOf, putD] at q
        rw [getD_set, get_put] at q
        by_cases e : s = t
        · subst e
          by_cases h1 : s < fr'.length
          · have h2 := h.sim.flen
            rw [if_pos ⟨rfl, by omega⟩, if_pos ⟨rfl, h1⟩] at q
            exact h.own b (.inr q)
          · rw [if_neg (c := s = s ∧ s < fr'.length) (fun p => h1 p.2), get_ge fr' s (by omega)] at q; cases q
        · rw [if_neg (fun p => e p.1), if_neg (fun p => e p.1)] at q
          exact h.own b (.inl (.inr ⟨.slot s, q⟩))

theorem put_tmps (a : Act) (d : Option Nat) (v : Value) : (a.put d v).tmps = (match d with | some t => a.tmps.setIfInBounds t v | none => a.tmps) ∧ (a.put d v).defers = a.defers := by
  cases d <;> exact ⟨rfl, rfl⟩

/-- A slot whose bool is known. -/
theorem Sim.known (h : Sim T φ E w fr H tm) {t : Nat} {q : Bo} (hq : boolOf (fr.get t) = some q) : tm[t]? = some (.bool q.get) ∧ Sim T φ E w (fr.put t (X.c (.bool (.b q.get)))) H tm ∧
    Rel φ E w fr H tm φ E w (fr.put t (X.c (.bool (.b q.get)))) H tm := by
  have hv := boolOf_rep (h.slots t) hq
  have hs : tm[t]? = some (.bool q.get) := by
    simp only [Array.getD_eq_getD_getElem?] at hv
    cases hh : tm[t]? with
    | none => rw [hh] at hv; cases hv
    | some u => rw [hh] at hv; rw [← hv]; rfl
  have htok : ∀ s b, tokX (tm.getD s undef) ((fr.put t (X.c (.bool (.b q.get)))).get s) = some b → tokX (tm.getD s undef) (fr.get s) = some b := by
    intro s b hb
    rw [get_put] at hb
    split at hb
    · cases hb
    · exact hb
  refine ⟨hs, h.slots' (by simp [Fr.put]; exact h.flen) (fun s => ?_) htok, ⟨Ch.refl w E h.fresh _, fun b hb => ?_, fun _ _ q => q, fun _ _ q => q⟩⟩
  · rw [get_put]
    split
    · rename_i e
      rw [e.1, hv]
      exact RepC.bool (.b q.get)
    · exact h.slots s
  · rcases hb with hb | ⟨i, hb⟩
    · exact .inl (.inl hb)
    · cases i with
      | slot s => exact .inl (.inr ⟨.slot s, htok s b hb⟩)
      | cell o' j => exact .inl (.inr ⟨.cell o' j, hb⟩)

theorem Res.mono {S' : Nat → Prop} {v : Value} {x : X I} {fr' : Fr I} (h : Res T S φ E w fr H tm v x φ' E' w' fr' H') (hS : ∀ i, S i → S' i) : Res T S' φ E w fr H tm v x φ' E' w' fr' H' :=
  ⟨h.sim, h.rep, h.free, h.ch.mono (fun b _ q => q.imp (fun ⟨o, q1, q2⟩ => ⟨o, hS o q1, q2⟩) id), h.own, h.pre, h.rows⟩

/-- The variables that an operation may write. -/
def wrAny (T : Ty I) (env : Env I R) (fr : Fr I) (o : Oper) (i : Nat) : Prop := wrOf T fr o i ∨ callWr T env fr o i

theorem evAny_ok (hok : TyOK P T) {env : Env I R} (henv : EnvOK P T env) {a : Act} (hs : Sim T φ E w fr H a.tmps) {tk : Bool} {op : Op} (ho : o.op = op) {next : Act → World → Prop} {Q : Exit → Act → World → Prop}
    (h : evAny P T env tk fr H op K = some out) (hnext : ∀ v x φ' E' w' fr' H', K x fr' H' = some out → Res T (wrAny T env fr o) φ E w fr H a.tmps v x φ' E' w' fr' H' → next (a.put o.dst v) w') : o.wp P a w next Q := by
  unfold evAny at h
  split at h
  · rename_i q1 f args ts
    exact ok_call hs hok henv ho h (fun v x φ' E' w' fr' H' k r => hnext v x φ' E' w' fr' H' k (r.mono fun i q => .inr q))
  · obtain ⟨v, x, φ', E', w', fr', H', hk, hr, hres⟩ := evOp_ok hs hok ho h
    have := hnext v x φ' E' w' fr' H' hk (hres.mono fun i q => .inl q)
    unfold Oper.wp
    rcases hr with hr | ⟨hr, rfl⟩ <;> rw [hr] <;> exact this

theorem rep_undef : RepX T φ H w E undef (.tup []) := ⟨#[], rfl, rfl, fun j y q => by simp at q⟩

/-- What is known of the slots is so. -/
def KnC (kn : Kn) (tm : Array Value) : Prop := ∀ t b, kn.get t = some b → tm[t]? = some (.bool b)

theorem KnC.nil (tm : Array Value) : KnC [] tm := fun t b h => by cases h

theorem Kn.get_cons (t : Nat) (b : Bool) (kn : Kn) (s : Nat) : Kn.get ((t, b) :: kn) s = if t = s then some b else Kn.get kn s := by
  unfold Kn.get
  rw [List.find?_cons]
  by_cases h : t = s
  · simp [h]
  · have e : (t == s) = false := by simpa using h
    simp only [e, if_neg h]

theorem KnC.cons {kn : Kn} {tm : Array Value} {t : Nat} {b : Bool} (h : KnC kn tm) (ht : tm[t]? = some (.bool b)) : KnC ((t, b) :: kn) tm := by
  intro s c hs
  rw [Kn.get_cons] at hs
  split at hs
  · rename_i e; subst e; cases hs; exact ht
  · exact h s c hs

theorem Kn.get_drop {kn : Kn} {d : Option Nat} {t : Nat} {b : Bool} (h : (kn.drop d).get t = some b) : kn.get t = some b ∧ ∀ s, d = some s → t ≠ s := by
  cases d with
  | none => exact ⟨h, fun s e => by cases e⟩
  | some d =>
    simp only [Kn.drop, Kn.get] at h ⊢
    obtain ⟨p, hp, hb⟩ := Option.map_eq_some_iff.1 h
    have h1 := List.find?_some hp
    have h2 := List.mem_of_find?_eq_some hp
    simp only [List.mem_filter] at h2
    have hne : t ≠ d := by
      rintro rfl
      simp at h1 h2
      exact h2.2 h1
    refine ⟨?_, fun s e => by cases e; exact hne⟩
    rw [List.find?_filter] at hp
    have : (fun p : Nat × Bool => decide ((!(p.1 == d)) = true ∧ (p.1 == t) = true)) = fun p => p.1 == t := by
      funext p
      by_cases e : p.1 = t
      · have : p.1 ≠ d := by omega
        simp [e]; omega
      · simp [e]
    first
      | (rw [this] at hp; rw [hp]; simp [hb])
      | (simp only [this] at hp; rw [hp]; simp [hb])

theorem KnC.put {kn : Kn} {a : Act} {d : Option Nat} {v : Value} (h : KnC kn a.tmps) : KnC (kn.drop d) (a.put d v).tmps := by
  intro t b ht
  obtain ⟨h1, h2⟩ := Kn.get_drop ht
  rw [(put_tmps a d v).1]
  cases d with
  | none => exact h t b h1
  | some s =>
    have := h2 s rfl
    simp only
    rw [Array.getElem?_setIfInBounds_ne (fun e => this e.symm)]
    exact h t b h1

theorem evGuard_ok {ops : Array Oper} {kn : Kn} {Kt Kf : Kn → Option R} {a : Act} (hs : Sim T φ E w fr H a.tmps) (hk : KnC kn a.tmps) (h : evGuard ops o kn fr Kt Kf = some out) :
    (Region.wanted o (yielded ops a.tmps) = true ∧ ∃ kn1, Kt kn1 = some out ∧ KnC kn1 a.tmps) ∨ (Region.wanted o (yielded ops a.tmps) = false ∧ ∃ kn1, Kf kn1 = some out ∧ KnC kn1 a.tmps) := by
  unfold evGuard at h
  split at h
  · rename_i hg
    exact .inl ⟨by simp [Region.wanted, hg], kn, h, hk⟩
  · rename_i g want hg
    split at h
    · cases h
    · rename_i t ht
      have key : ∀ (b : Bool) (kn1 : Kn), a.tmps[t]? = some (.bool b) → KnC kn1 a.tmps → (if b = want then Kt kn1 else Kf kn1) = some out →
          (Region.wanted o (yielded ops a.tmps) = true ∧ ∃ kn1, Kt kn1 = some out ∧ KnC kn1 a.tmps) ∨ (Region.wanted o (yielded ops a.tmps) = false ∧ ∃ kn1, Kf kn1 = some out ∧ KnC kn1 a.tmps) := by
        intro b kn1 hb hk1 h0
        have hy : yielded ops a.tmps g = some b := by simp [yielded, ht, hb]
        by_cases e : b = want
        · rw [if_pos e] at h0
          exact .inl ⟨by simp [Region.wanted, hg, hy, e], kn1, h0, hk1⟩
        · rw [if_neg e] at h0
          exact .inr ⟨by simp [Region.wanted, hg, hy, e], kn1, h0, hk1⟩
      split at h
      · rename_i b hb
        exact key b kn (hk t b hb) hk h
      · split at h
        · rename_i hun
          have hx := hs.slots t
          have : fr.get t = .tup [] := by
            unfold isUndef at hun
            split at hun
            · assumption
            · cases hun
          rw [this] at hx
          obtain ⟨arr, hv, _, _⟩ := hx
          refine .inr ⟨?_, kn, h, hk⟩
          have hy : yielded ops a.tmps g = none := by
            unfold yielded
            rw [ht]
            simp only [Option.bind_some]
            cases hh : a.tmps[t]? with
            | none => rfl
            | some u =>
              simp only [Array.getD_eq_getD_getElem?, hh, Option.getD_some] at hv
              subst hv; rfl
          simp [Region.wanted, hg, hy]
        · split at h
          · cases h
          · rename_i q hq
            have hkn := (hs.known hq).1
            rcases Bo.ite_cases q (if true = want then Kt ((t, true) :: kn) else Kf ((t, true) :: kn)) (if false = want then Kt ((t, false) :: kn) else Kf ((t, false) :: kn)) with ⟨h1, h2⟩ | ⟨h1, h2⟩
            · rw [h2] at h; rw [h1] at hkn; exact key true _ hkn (hk.cons hkn) h
            · rw [h2] at h; rw [h1] at hkn; exact key false _ hkn (hk.cons hkn) h

theorem evKn_ok (hok : TyOK P T) {env : Env I R} (henv : EnvOK P T env) {a : Act} (hs : Sim T φ E w fr H a.tmps) {kn : Kn} (hk : KnC kn a.tmps) {tk : Bool} {op : Op} (ho : o.op = op) {next : Act → World → Prop} {Q : Exit → Act → World → Prop}
    (h : evKn P T env kn tk fr H op K = some out) (hnext : ∀ v x φ' E' w' fr' H', K x fr' H' = some out → Res T (wrAny T env fr o) φ E w fr H a.tmps v x φ' E' w' fr' H' → next (a.put o.dst v) w') : o.wp P a w next Q := by
  unfold evKn at h
  split at h
  · rename_i t x y
    have pick : ∀ (b : Bool) (z : Operand), kn.get t = some b → z = (if b then x else y) → K (ev T fr z).weak fr H = some out → o.wp P a w next Q := by
      intro b z hb hz h0
      have hv : a.eval (.tmp t) = .bool b := by simp [Act.eval, hk t b hb]
      have := hnext (a.eval z) _ φ E w fr H h0 (Res.same hs (ev_rep hs a.defers z).weak (tokX_weakX _ _))
      unfold Oper.wp
      have hrun : (execOp a.eval o).run P w = .ok (.value (a.eval z)) w := by
        unfold execOp; rw [ho]; subst hz; cases b <;> simp [hv, asBool]
      rw [hrun]; exact this
    split at h
    · rename_i hb; exact pick true x hb rfl h
    · rename_i hb; exact pick false y hb rfl h
    · exact evAny_ok hok henv hs ho h hnext
  · exact evAny_ok hok henv hs ho h hnext

theorem evOps_ok (hok : TyOK P T) {env : Env I R} (henv : EnvOK P T env) {rid : Nat} {ops : Array Oper} {K : Fr I → Hp I → Option R} {Q : Exit → Act → World → Prop} :
    ∀ (js : List Nat) (kn : Kn) (φ : List Nat) (E : Nat → Nat) (w : World) (fr : Fr I) (H : Hp I) (a : Act), KnC kn a.tmps → evOps P T env rid ops js kn fr H K = some out → Sim T φ E w fr H a.tmps → a.defers = [] →
      (∀ φ' E' w' fr' H' a', K fr' H' = some out → Sim T φ' E' w' fr' H' a'.tmps → Rel φ E w fr H a.tmps φ' E' w' fr' H' a'.tmps → a'.defers = [] → Q .normal a' w') → wpOps P ops Q js a w
  | [], kn, φ, E, w, fr, H, a, hk, h, hs, hd, hK => hK φ E w fr H a h hs (Rel.refl hs) hd
  | j :: js, kn, φ, E, w, fr, H, a, hk, h, hs, hd, hK => by
    simp only [evOps] at h
    simp only [wpOps]
    cases hj : ops[j]? with
    | none => rw [hj] at h; cases h
    | some o =>
      rw [hj] at h
      simp only [evStep] at h ⊢
      rcases evGuard_ok hs hk h with ⟨hw, kn1, h0, hk1⟩ | ⟨hw, kn1, h0, hk1⟩
      · rw [if_pos hw]
        left
        refine evKn_ok hok henv hs hk1 rfl h0 (fun v x φ' E' w' fr' H' hk hres => ?_)
        obtain ⟨k1, k2⟩ := hres.put o.dst
        obtain ⟨p1, p2⟩ := put_tmps a o.dst v
        rw [← p1] at k1 k2
        exact evOps_ok hok henv js _ φ' E' w' _ H' (a.put o.dst v) hk1.put hk k1 (by rw [p2]; exact hd) (fun φ2 E2 w2 fr2 H2 a2 g1 g2 g3 g4 => hK φ2 E2 w2 fr2 H2 a2 g1 g2 (k2.trans g3) g4)
      · rw [if_neg (by rw [hw]; simp)]
        have hres : Res T (fun _ => False) φ E w fr H a.tmps undef (.tup []) φ E w fr H := Res.same hs rep_undef rfl
        obtain ⟨k1, k2⟩ := hres.put o.dst
        obtain ⟨p1, p2⟩ := put_tmps a o.dst undef
        rw [← p1] at k1 k2
        exact evOps_ok hok henv js _ φ E w _ H (a.put o.dst undef) hk1.put h0 k1 (by rw [p2]; exact hd) (fun φ2 E2 w2 fr2 H2 a2 g1 g2 g3 g4 => hK φ2 E2 w2 fr2 H2 a2 g1 g2 (k2.trans g3) g4)
end
end Go.Proofs.YtgefikclhfjcgaaDoorEv

namespace Go.Proofs.YtgefikclhfjcgaaDoorEv
open Go Go.RowKit
set_option linter.unusedVariables false
set_option linter.unusedSectionVars false
set_option linter.unusedSimpArgs false

section
variable {I : Nat → Type} {P : Program} {T : Ty I} {R : Type}

/-- A text of ways hangs on what follows at one place. -/
def One {α : Type} (f : {R : Type} → (α → Option R) → Option R) : Prop := ∀ {R : Type} (K : α → Option R), f K = (f some).bind K

theorem bo_one {α : Type} (q : Bo) (x y : Option R) (g : R → Option α) : (q.ite x y).bind g = q.ite (x.bind g) (y.bind g) := by
  cases q <;> simp only [Bo.ite] <;> split <;> rfl


theorem intOp_one (op : BinOp) (k : IntKind) (a b : Int) (K : C I → Option R) : intOp op k a b K = (intOp op k a b some).bind K := by
  cases op <;> simp only [intOp, Option.bind_some, Option.bind_none] <;> (split <;> rfl)
theorem strOp_one (op : BinOp) (a b : ByteArray) (K : C I → Option R) : strOp op a b K = (strOp op a b some).bind K := by
  cases op <;> simp only [strOp, Option.bind_some, Option.bind_none] <;> (split <;> rfl)
theorem binOp_one (op : BinOp) (t : TypeId) (x y : X I) (K : C I → Option R) : binOp P op t x y K = (binOp P op t x y some).bind K := by
  unfold binOp
  split
  · split
    · split <;> rfl
    · split <;> rfl
    · split
      · exact intOp_one ..
      · rfl
  · exact strOp_one ..
  · split <;> rfl
  · split <;> rfl
  · split <;> rfl
  · split
    · split <;> rfl
    · rfl
  · rfl
theorem unOp_one (op : UnOp) (x : X I) (K : C I → Option R) : unOp op x K = (unOp op x some).bind K := by
  unfold unOp; split <;> rfl
theorem convert_one (s d : TypeId) (x : X I) (K : C I → Option R) : convert P T s d x K = (convert P T s d x some).bind K := by
  unfold convert
  split
  · rfl
  · rfl
  · split
    · split <;> rfl
    · rfl
  · split
    · split <;> rfl
    · rfl
  · rfl
theorem append_one (e : Nat) (x y : X I) (K : C I → Option R) : append P T e x y K = (append P T e x y some).bind K := by
  unfold append
  split
  · split
    · split
      · split <;> rfl
      · rfl
    · split
      · split <;> rfl
      · rfl
    · split
      · split <;> rfl
      · rfl
    · split
      · split <;> rfl
      · rfl
    · rfl
  · rfl
def K3 (x : X I) (fr : Fr I) (H : Hp I) : Option (X I × Fr I × Hp I) := some (x, fr, H)
theorem loadAt_one (tk : Bool) (fr : Fr I) (H : Hp I) (t : TypeId) (a : X I) (K : Kont I R) : loadAt P T tk fr H t a K = (loadAt P T tk fr H t a K3).bind fun r => K r.1 r.2.1 r.2.2 := by
  unfold loadAt
  split
  · split
    · split
      · split <;> rfl
      · rfl
    · rfl
  · split
    · split <;> rfl
    · rfl
  · split
    · split
      · split <;> rfl
      · rfl
    · rfl
  · rfl
theorem storeAt_one (fr : Fr I) (H : Hp I) (t : TypeId) (a v : X I) (K : Fr I → Hp I → Option R) : storeAt P T fr H t a v K = (storeAt P T fr H t a v fun fr H => some (fr, H)).bind fun r => K r.1 r.2 := by
  unfold storeAt
  split
  · split
    · split
      · split <;> rfl
      · rfl
    · rfl
  · split
    · split
      · split <;> rfl
      · rfl
    · rfl
  · rfl
theorem indexAddr_one (H : Hp I) (t : TypeId) (x i : X I) (K : X I → Option R) : indexAddr P T H t x i K = (indexAddr P T H t x i some).bind K := by
  unfold indexAddr
  split
  · split
    · split
      · split
        · split <;> rfl
        · rfl
      · rfl
    · rfl
  · split
    · split
      · split <;> rfl
      · rfl
    · rfl
  · split
    · split
      · split
        · split <;> rfl
        · rfl
      · rfl
    · rfl
  · split
    · split
      · split
        · split <;> rfl
        · rfl
      · rfl
    · rfl
  · rfl
theorem bound_one {α : Type} (x : Option (X I)) (lo hi d : Int) (K : Int → Option R) (g : R → Option α) : (bound x lo hi d K).bind g = bound x lo hi d fun n => (K n).bind g := by
  unfold bound
  split
  · rfl
  · split
    · split <;> rfl
    · rfl
  · rfl
theorem sliceOp_one (H : Hp I) (t : TypeId) (x : X I) (lo hi mx : Option (X I)) (K : X I → Option R) : sliceOp P H t x lo hi mx K = (sliceOp P H t x lo hi mx some).bind K := by
  unfold sliceOp
  split
  · simp only [bound_one, Option.bind_some]
  · split
    · simp only [bound_one, Option.bind_some]
    · rfl
  · rfl

theorem lookupAt_one (H : Hp I) (t : TypeId) (m x : X I) (ok : Bool) (K : X I → Option R) : lookupAt P T H t m x ok K = (lookupAt P T H t m x ok some).bind K := by
  unfold lookupAt
  split
  · split
    · split
      · split
        · split
          · split <;> rfl
          · rfl
        · rfl
      · rfl
    · rfl
  · rfl
theorem updateAt_one (fr : Fr I) (H : Hp I) (t : TypeId) (m x v : X I) (K : Fr I → Hp I → Option R) : updateAt P T fr H t m x v K = (updateAt P T fr H t m x v fun fr H => some (fr, H)).bind fun r => K r.1 r.2 := by
  unfold updateAt
  split
  · split
    · split
      · split <;> rfl
      · rfl
    · rfl
  · rfl
theorem deleteAt_one (H : Hp I) (t : TypeId) (m x : X I) (K : Hp I → Option R) : deleteAt P T H t m x K = (deleteAt P T H t m x some).bind K := by
  unfold deleteAt
  split
  · split
    · split
      · split <;> rfl
      · rfl
    · rfl
  · rfl
theorem clearAt_one (H : Hp I) (t : TypeId) (m : X I) (K : Hp I → Option R) : clearAt P H t m K = (clearAt P H t m some).bind K := by
  unfold clearAt
  split
  · split <;> rfl
  · rfl
theorem lenAt_one (H : Hp I) (t : TypeId) (x : X I) (K : X I → Option R) : lenAt P H t x K = (lenAt P H t x some).bind K := by
  unfold lenAt
  split
  · rfl
  · rfl
  · split <;> rfl
  · split <;> rfl
  · split <;> rfl
  · rfl
theorem evOp_one (tk : Bool) (fr : Fr I) (H : Hp I) (op : Op) (K : Kont I R) : evOp P T tk fr H op K = (evOp P T tk fr H op K3).bind fun r => K r.1 r.2.1 r.2.2 := by
  cases op <;> simp only [evOp]
  case move x => split <;> rfl
  case assign x => split <;> rfl
  case pick c a b => split <;> first | rfl | simp only [bo_one, K3, Option.bind_some]
  case alloc t =>
    split
    · split
      · split <;> rfl
      · rfl
    · rfl
    · rfl
  case box t x => split <;> rfl
  case build t ps => split <;> rfl
  case buildSlice t n ps => split <;> rfl
  case load t a =>
    split
    · exact loadAt_one ..
    · rfl
  case store t a v =>
    rw [storeAt_one, storeAt_one (K := fun fr H => K3 .dead fr H)]
    cases storeAt P T (drop fr v) H t (ev T fr a) (ev T fr v) (fun fr H => some (fr, H)) <;> rfl
  case nilCheck x => split <;> rfl
  case binOp op t x y yt => rw [binOp_one, binOp_one (K := fun c => K3 (.c c) fr H)]; cases binOp P op t (ev T fr x) (ev T fr y) some <;> rfl
  case unOp op t x => rw [unOp_one, unOp_one (K := fun c => K3 (.c c) fr H)]; cases unOp op (ev T fr x) some <;> rfl
  case convert s d x => rw [convert_one, convert_one (K := fun c => K3 (.c c) fr H)]; cases convert P T s d (ev T fr x) some <;> rfl
  case makeFunc f first cs =>
    cases f <;> simp only [evOp] <;> first | rfl | skip
    split
    · split <;> rfl
    · rfl
  case makeSlice t n m =>
    cases n <;> cases m <;> simp only [evOp] <;> first | rfl | skip
    split
    · split
      · split
        · split
          · split
            · split <;> rfl
            · rfl
          · rfl
        · rfl
      · rfl
    · rfl
  case makeMap t r =>
    cases r <;> simp only [evOp] <;> first | rfl | skip
    split
    · split <;> rfl
    · rfl
  case lookup t m x ok => rw [lookupAt_one, lookupAt_one (K := fun x => K3 x fr H)]; cases lookupAt P T H t (ev T fr m) (ev T fr x) ok some <;> rfl
  case mapUpdate t m x v =>
    rw [updateAt_one, updateAt_one (K := fun fr H => K3 .dead fr H)]
    cases updateAt P T (drop fr v) H t (ev T fr m) (ev T fr x) (ev T fr v) (fun fr H => some (fr, H)) <;> rfl
  case slice t x lo hi mx => rw [sliceOp_one, sliceOp_one (K := fun x => K3 x fr H)]; cases sliceOp P H t (ev T fr x) (lo.map (ev T fr)) (hi.map (ev T fr)) (mx.map (ev T fr)) some <;> rfl
  case fieldAddr s x f => split <;> first | rfl | (split <;> rfl)
  case field t x f =>
    split
    · split
      · split
        · split
          · rfl
          · split <;> rfl
        · rfl
      · rfl
    · rfl
  case indexAddr t x i => rw [indexAddr_one, indexAddr_one (K := fun x => K3 x fr H)]; cases indexAddr P T H t (ev T fr x) (ev T fr i) some <;> rfl
  case index t x i =>
    split
    · split
      · split <;> rfl
      · rfl
    · rfl
  case extract t i =>
    split
    · split <;> rfl
    · rfl
  case call c =>
    obtain ⟨cal, args, ts⟩ := c
    cases cal with
    | builtin b =>
      simp only
      split
      · rw [lenAt_one, lenAt_one (K := fun x => K3 x fr H)]; cases lenAt P H _ _ some <;> rfl
      · rw [deleteAt_one, deleteAt_one (K := fun H => K3 .dead fr H)]; cases deleteAt P T H _ _ _ some <;> rfl
      · rw [clearAt_one, clearAt_one (K := fun H => K3 .dead fr H)]; cases clearAt P H _ _ some <;> rfl
      · split
        · rw [append_one, append_one (K := fun c => K3 (.c c) _ H)]; cases append P T _ _ _ some <;> rfl
        · rw [append_one, append_one (K := fun c => K3 (.c c) _ H)]; cases append P T _ _ _ some <;> rfl
        · rfl
      · rfl
    | value f => rfl
    | invoke r m => rfl
  all_goals rfl

theorem mapM_congr_ {α β : Type} {f g : α → Option β} : ∀ {l : List α}, (∀ x ∈ l, f x = g x) → l.mapM f = l.mapM g
  | [], _ => rfl
  | x :: l, h => by
    rw [List.mapM_cons, List.mapM_cons, h x (by simp), mapM_congr_ (l := l) fun y hy => h y (by simp [hy])]

/-- The slots then, without the rights that an operation takes. -/
def dropOp (tk : Bool) (fr : Fr I) : Op → Fr I
  | .move x => if tk then drop fr x else fr
  | .assign x => if tk then drop fr x else fr
  | .box _ x => drop fr x
  | .store _ _ v => drop fr v
  | .mapUpdate _ _ _ v => drop fr v
  | .call { callee := .builtin .append, args, argTypes } => (match args.toList with | x :: _ => drop fr x | [] => fr)
  | _ => fr

theorem loadAt_fr (fr fr' : Fr I) (tk : Bool) (H : Hp I) (t : TypeId) (a : X I) (K : Kont I R) : loadAt P T tk fr' H t a K = loadAt P T tk fr H t a (fun y _ H => K y fr' H) := by
  unfold loadAt
  split <;> rfl
theorem storeAt_fr (fr fr' : Fr I) (H : Hp I) (t : TypeId) (a v : X I) (K : Fr I → Hp I → Option R) : storeAt P T fr' H t a v K = storeAt P T fr H t a v (fun _ H => K fr' H) := by
  unfold storeAt
  split <;> rfl

theorem updateAt_fr (fr fr' : Fr I) (H : Hp I) (t : TypeId) (m x v : X I) (K : Fr I → Hp I → Option R) : updateAt P T fr' H t m x v K = updateAt P T fr H t m x v (fun _ H => K fr' H) := by
  unfold updateAt
  split <;> rfl

theorem map_ev {fr fr' : Fr I} (x : Option Operand) (h : ∀ z ∈ x.toArray, ev T fr' z = ev T fr z) : x.map (ev T fr') = x.map (ev T fr) := by
  cases x with
  | none => rfl
  | some x => simp only [Option.map_some]; rw [h x (by simp)]

theorem evOp_congr {tk : Bool} {fr fr' : Fr I} {H : Hp I} {op : Op} {K : Kont I R} (h : ∀ z ∈ op.operands, ev T fr' z = ev T fr z) :
    evOp P T tk fr' H op K = evOp P T tk fr H op (fun y _ H => K y (dropOp tk fr' op) H) := by
  cases op <;> simp only [evOp, dropOp]
  case move x => rw [h x (by simp [Op.operands])]; split <;> rfl
  case assign x => rw [h x (by simp [Op.operands])]; split <;> rfl
  case pick c a b => rw [h c (by simp [Op.operands]), h a (by simp [Op.operands]), h b (by simp [Op.operands])]
  case box t x => rw [h x (by simp [Op.operands])]
  case build t ps =>
    have : ps.toList.map (fun p => (p.1, ev T fr' p.2)) = ps.toList.map (fun p => (p.1, ev T fr p.2)) := List.map_congr_left fun p hp => by rw [h p.2 (by simp [Op.operands]; exact ⟨p.1, by simpa using hp⟩)]
    rw [this]
  case buildSlice t n ps =>
    have : ps.toList.map (fun p => (p.1, ev T fr' p.2)) = ps.toList.map (fun p => (p.1, ev T fr p.2)) := List.map_congr_left fun p hp => by rw [h p.2 (by simp [Op.operands]; exact ⟨p.1, by simpa using hp⟩)]
    rw [this]
  case load t a => rw [h a (by simp [Op.operands])]; split <;> first | exact loadAt_fr .. | rfl
  case store t a v => rw [h a (by simp [Op.operands]), h v (by simp [Op.operands])]; exact storeAt_fr ..
  case nilCheck x => rw [h x (by simp [Op.operands])]
  case binOp op t x y yt => rw [h x (by simp [Op.operands]), h y (by simp [Op.operands])]
  case unOp op t x => rw [h x (by simp [Op.operands])]
  case convert s d x => rw [h x (by simp [Op.operands])]
  case makeFunc f first cs =>
    cases f <;> simp only [evOp] <;> first | rfl | skip
    have : cs.toList.mapM (fun x => capOf (ev T fr' x)) = cs.toList.mapM (fun x => capOf (ev T fr x)) := by
      refine mapM_congr_ fun x hx => ?_
      rw [h x (by simp [Op.operands]; exact .inr (by simpa using hx))]
    rw [this]
  case makeSlice t n m =>
    cases n <;> cases m <;> simp only [evOp] <;> first | rfl | skip
    rename_i n m
    have := h (.tmp n) (by simp [Op.operands])
    simp only [ev] at this
    rw [this]
  case makeMap t r => cases r <;> simp only [evOp] <;> rfl
  case lookup t m x ok => rw [h m (by simp [Op.operands]), h x (by simp [Op.operands])]
  case mapUpdate t m x v => rw [h m (by simp [Op.operands]), h x (by simp [Op.operands]), h v (by simp [Op.operands])]; exact updateAt_fr ..
  case slice t x lo hi mx =>
    rw [h x (by simp [Op.operands]), map_ev lo (fun z hz => h z (by simp [Op.operands]; simp at hz; simp [hz])), map_ev hi (fun z hz => h z (by simp [Op.operands]; simp at hz; simp [hz])), map_ev mx (fun z hz => h z (by simp [Op.operands]; simp at hz; simp [hz]))]
  case fieldAddr s x f => rw [h x (by simp [Op.operands])]
  case field t x f => rw [h x (by simp [Op.operands])]
  case indexAddr t x i => rw [h x (by simp [Op.operands]), h i (by simp [Op.operands])]
  case index t x i => rw [h x (by simp [Op.operands]), h i (by simp [Op.operands])]
  case extract t i => rw [h t (by simp [Op.operands])]
  case call c =>
    obtain ⟨cal, args, ts⟩ := c
    cases cal with
    | builtin b =>
      simp only
      split
      · rename_i x t hx ht
        have : ev T fr' x = ev T fr x := h x (by have : x ∈ args.toList := by rw [hx]; simp
                                                 simp [Op.operands, Call.operands]; simpa using this)
        rw [this]
      · rename_i m x t u hx ht
        have h1 : ev T fr' m = ev T fr m := h m (by have : m ∈ args.toList := by rw [hx]; simp
                                                    simp [Op.operands, Call.operands]; simpa using this)
        have h2 : ev T fr' x = ev T fr x := h x (by have : x ∈ args.toList := by rw [hx]; simp
                                                    simp [Op.operands, Call.operands]; simpa using this)
        rw [h1, h2]
      · rename_i m t hx ht
        have h1 : ev T fr' m = ev T fr m := h m (by have : m ∈ args.toList := by rw [hx]; simp
                                                    simp [Op.operands, Call.operands]; simpa using this)
        rw [h1]
      · rename_i x y t u hx ht
        have hx1 : ev T fr' x = ev T fr x := h x (by have : x ∈ args.toList := by rw [hx]; simp
                                                     simp [Op.operands, Call.operands]; simpa using this)
        have hy1 : ev T fr' y = ev T fr y := h y (by have : y ∈ args.toList := by rw [hx]; simp
                                                     simp [Op.operands, Call.operands]; simpa using this)
        rw [hx1, hy1]
        have hd : dropOp tk fr' (.call { callee := .builtin .append, args := args, argTypes := ts }) = drop fr' x := by simp only [dropOp, hx]
        split
        · show _ = append P T _ _ _ (fun c => K (X.c c) (dropOp tk fr' (.call { callee := .builtin .append, args := args, argTypes := ts })) H)
          rw [hd]
        · show _ = append P T _ _ _ (fun c => K (X.c c) (dropOp tk fr' (.call { callee := .builtin .append, args := args, argTypes := ts })) H)
          rw [hd]
        · rfl
      · rfl
    | value f => rfl
    | invoke r m => rfl
end
end Go.Proofs.YtgefikclhfjcgaaDoorEv

namespace Go.Proofs.YtgefikclhfjcgaaDoorEv
open Go Go.RowKit
set_option linter.unusedVariables false
set_option linter.unusedSectionVars false
set_option linter.unusedSimpArgs false

section
variable {I : Nat → Type} {P : Program} {T : Ty I} {R : Type}

/-- Calls come to one thing whatever follows. -/
structure EnvDet (env : Env I R) : Prop where
  det : ∀ g e xs H, env.fn g = some e → (∀ K, env.call g xs H K = none) ∨ ∃ x H', (∀ K, env.call g xs H K = K x H') ∧ (∀ o, o < H.length → o ∉ e.ids xs → H'[o]? = H[o]?) ∧ H.length ≤ H'.length
  loc : R → ∀ g e xs H1 H2, env.fn g = some e → H1.length = H2.length → (∀ o ∈ e.ids xs, H2[o]? = H1[o]?) → ∀ x H1', (∀ K, env.call g xs H1 K = K x H1') →
    ∃ H2', (∀ K, env.call g xs H2 K = K x H2') ∧ H2'.length = H1'.length ∧ (∀ o, (o ∈ e.ids xs ∨ H1.length ≤ o) → H2'[o]? = H1'[o]?) ∧ ∀ o, o < H1.length → o ∉ e.ids xs → H2'[o]? = H2[o]?
  pure : ∀ g e xs, env.fn g = some e → e.pure = true → (∀ H K, env.call g xs H K = none) ∨ ∃ x, ∀ H K, env.call g xs H K = K x H

def dropAny (T : Ty I) (env : Env I R) (tk : Bool) (fr : Fr I) (op : Op) : Fr I :=
  match op with
  | .call { callee := .value f, args, argTypes := _ } => (match ev T fr f with | .fn g _ => (match env.fn g with | some e => dropArgs fr e.own 0 args.toList | none => fr) | _ => fr)
  | op => dropOp tk fr op

theorem argsOf_congr {fr fr' : Fr I} (own : List Nat) : ∀ (args : List Operand) (j : Nat), (∀ z ∈ args, ev T fr' z = ev T fr z) → argsOf T fr' own j args = argsOf T fr own j args
  | [], _, _ => rfl
  | x :: xs, j, h => by simp only [argsOf]; rw [h x (by simp), argsOf_congr own xs (j + 1) fun z hz => h z (by simp [hz])]

theorem evAny_congr {env : Env I R} {tk : Bool} {fr fr' : Fr I} {H : Hp I} {op : Op} {K : Kont I R} (h : ∀ z ∈ op.operands, ev T fr' z = ev T fr z) :
    evAny P T env tk fr' H op K = evAny P T env tk fr H op (fun y _ H => K y (dropAny T env tk fr' op) H) := by
  unfold evAny
  split
  · rename_i q f args ts
    have hf : ev T fr' f = ev T fr f := h f (by simp [Op.operands, Call.operands])
    have ha : ∀ own, argsOf T fr' own 0 args.toList = argsOf T fr own 0 args.toList := fun own => argsOf_congr own _ 0 fun z hz => h z (by simp [Op.operands, Call.operands]; exact .inr (by simpa using hz))
    simp only [evCall, dropAny, hf, ha]
    split
    · rename_i x1 g caps h1
      split
      · rename_i x2 e h2
        simp only [h1, h2]
      · rfl
    · rfl
  · rename_i q hn
    have : dropAny T env tk fr' op = dropOp tk fr' op := by
      unfold dropAny
      split
      · rename_i f args ts; exact absurd rfl (hn f args ts)
      · rfl
    rw [this]
    exact evOp_congr h

/-- What an operation comes to. -/
theorem evAny_det {env : Env I R} (hd : EnvDet env) (tk : Bool) (fr : Fr I) (H : Hp I) (op : Op) :
    (∀ K : Kont I R, evAny P T env tk fr H op K = none) ∨ ∃ x H', ∀ K : Kont I R, evAny P T env tk fr H op K = K x (dropAny T env tk fr op) H' := by
  by_cases hop : ∃ f args ts, op = .call { callee := .value f, args := args, argTypes := ts }
  · obtain ⟨f, args, ts, rfl⟩ := hop
    simp only [evAny, evCall, dropAny]
    cases hf : ev T fr f with
    | fn g caps =>
      simp only
      cases he : env.fn g with
      | none => exact .inl fun K => rfl
      | some e =>
        simp only
        split
        · exact .inl fun K => rfl
        · rcases hd.det g e (argsOf T fr e.own 0 args.toList ++ caps.map fun c => X.c c.weak) H he with h | ⟨x, H', h, _⟩
          · exact .inl fun K => h _
          · exact .inr ⟨x, H', fun K => h _⟩
    | _ => exact .inl fun K => rfl
  · have h1 : ∀ (K : Kont I R), evAny P T env tk fr H op K = evOp P T tk fr H op K := by
      intro K
      unfold evAny
      split
      · rename_i f args ts; exact absurd ⟨f, args, ts, rfl⟩ hop
      · rfl
    have h2 : dropAny T env tk fr op = dropOp tk fr op := by
      unfold dropAny
      split
      · rename_i f args ts; exact absurd ⟨f, args, ts, rfl⟩ hop
      · rfl
    cases hv : evOp P T tk fr H op (fun y _ H => K3 y (dropOp tk fr op) H) with
    | none =>
      left; intro K
      rw [h1, evOp_one, evOp_congr (fr := fr) (fr' := fr) (fun _ _ => rfl), hv]; rfl
    | some r =>
      obtain ⟨x, f, H'⟩ := r
      right
      refine ⟨x, H', fun K => ?_⟩
      have hf : f = dropOp tk fr op := by
        have := evOp_one (P := P) (T := T) tk fr H op (fun y _ H => K3 y (dropOp tk fr op) H)
        rw [hv] at this
        cases hq : evOp P T tk fr H op K3 with
        | none => rw [hq] at this; cases this
        | some r => rw [hq] at this; cases this; rfl
      rw [h1, h2, evOp_one, evOp_congr (fr := fr) (fr' := fr) (fun _ _ => rfl), hv, hf]; rfl

theorem drop_get (fr : Fr I) (z : Operand) (t : Nat) : (drop fr z).get t = fr.get t ∨ (z = .tmp t ∧ (drop fr z).get t = (fr.get t).weak) := by
  cases z with
  | tmp s =>
    simp only [drop, get_put]
    split
    · rename_i h; obtain ⟨rfl, _⟩ := h; exact .inr ⟨rfl, rfl⟩
    · exact .inl rfl
  | _ => exact .inl rfl
theorem boolOf_weak (x : X I) : boolOf x.weak = boolOf x := by
  cases x with
  | y y => cases y with
    | one c => cases c <;> rfl
    | agg cs => rfl
  | _ => rfl
theorem isUndef_weak (x : X I) : isUndef x.weak = isUndef x := by
  cases x with
  | y y => cases y with
    | one c => cases c <;> rfl
    | agg cs => rfl
  | tup l => rfl
  | _ => rfl
theorem dropArgs_get (own : List Nat) : ∀ (args : List Operand) (j : Nat) (fr : Fr I) (t : Nat), (dropArgs fr own j args).get t = fr.get t ∨ (t ∈ tmpsOf args ∧ (dropArgs fr own j args).get t = (fr.get t).weak)
  | [], _, _, _ => .inl rfl
  | x :: xs, j, fr, t => by
    simp only [dropArgs]
    have hx : x = .tmp t → t ∈ tmpsOf (x :: xs) := by rintro rfl; simp [tmpsOf]
    have hm : t ∈ tmpsOf xs → t ∈ tmpsOf (x :: xs) := by
      intro h; unfold tmpsOf at h ⊢; cases x <;> simp_all
    have hw : ∀ y : X I, y.weak.weak = y.weak := by
      intro y
      cases y with
      | y y => cases y with
        | one c => cases c <;> rfl
        | agg cs => simp only [X.weak, Y.weak, List.map_map]; congr 2; apply List.map_congr_left; intro c _; cases c <;> rfl
      | _ => rfl
    rcases dropArgs_get own xs (j + 1) (if own.contains j then drop fr x else fr) t with h | ⟨h1, h2⟩
    · rw [h]
      split
      · rcases drop_get fr x t with p | ⟨p, q⟩
        · exact .inl p
        · exact .inr ⟨hx p, q⟩
      · exact .inl rfl
    · right
      refine ⟨hm h1, ?_⟩
      rw [h2]
      split
      · rcases drop_get fr x t with p | ⟨p, q⟩
        · rw [p]
        · rw [q, hw]
      · rfl
theorem dropAny_get (env : Env I R) (tk : Bool) (fr : Fr I) (op : Op) (t : Nat) : (dropAny T env tk fr op).get t = fr.get t ∨ (t ∈ takesOf tk op ∧ (dropAny T env tk fr op).get t = (fr.get t).weak) := by
  have one : ∀ z : Operand, (drop fr z).get t = fr.get t ∨ (t ∈ tmpsOf [z] ∧ (drop fr z).get t = (fr.get t).weak) := by
    intro z
    rcases drop_get fr z t with p | ⟨rfl, q⟩
    · exact .inl p
    · exact .inr ⟨by simp [tmpsOf], q⟩
  cases op <;> simp only [dropAny, dropOp, takesOf] <;> first | exact .inl rfl | exact .inl trivial | skip
  case move x => split <;> first | exact one x | exact .inl rfl
  case assign x => split <;> first | exact one x | exact .inl rfl
  case box t' x => exact one x
  case store t' a v => exact one v
  case mapUpdate t' m x v => exact one v
  case call c =>
    obtain ⟨cal, args, ts⟩ := c
    cases cal with
    | value f =>
      simp only
      split
      · split
        · exact dropArgs_get ..
        · exact .inl rfl
      · exact .inl rfl
    | builtin b =>
      cases b <;> simp only [dropOp] <;> first | exact .inl rfl | exact .inl trivial | skip
      split
      · rename_i x xs hx
        rcases one x with p | ⟨p, q⟩
        · exact .inl p
        · refine .inr ⟨?_, q⟩
          rw [hx]; unfold tmpsOf at p ⊢; cases x <;> simp_all
      · exact .inl rfl
    | invoke r m => exact .inl rfl

/-- Whether an operation that waits for a bool is carried out. -/
def wantT (ops : Array Oper) (o : Oper) (fr : Fr I) : Option Bool :=
  match o.guard with
  | none => some true
  | some (g, want) =>
    match (ops[g]?).bind (·.dst) with
    | none => none
    | some t => if isUndef (fr.get t) = true then some false else (boolOf (fr.get t)).map fun q => decide (q.get = want)
/-- What is known of the slots is so. -/
def KnT (kn : Kn) (fr : Fr I) : Prop := ∀ t b, kn.get t = some b → ∃ q, boolOf (fr.get t) = some q ∧ q.get = b

theorem KnT.nil (fr : Fr I) : KnT [] fr := fun t b h => by cases h
theorem KnT.cons {kn : Kn} {fr : Fr I} {t : Nat} {b : Bool} {q : Bo} (h : KnT kn fr) (ht : boolOf (fr.get t) = some q) (hb : q.get = b) : KnT ((t, b) :: kn) fr := by
  intro s c hs
  rw [Kn.get_cons] at hs
  split at hs
  · rename_i e; subst e; cases hs; exact ⟨q, ht, hb⟩
  · exact h s c hs
theorem boolOf_undef {x : X I} (h : isUndef x = true) : boolOf x = none := by
  unfold isUndef at h
  split at h
  · rfl
  · cases h

theorem evGuard_T {ops : Array Oper} {o : Oper} {kn : Kn} {fr : Fr I} (hk : KnT kn fr) :
    (wantT ops o fr = none → ∀ Kt Kf : Kn → Option R, evGuard ops o kn fr Kt Kf = none) ∧
    (wantT ops o fr = some true → ∃ kn1, KnT kn1 fr ∧ ∀ Kt Kf : Kn → Option R, evGuard ops o kn fr Kt Kf = Kt kn1) ∧
    (wantT ops o fr = some false → ∃ kn1, KnT kn1 fr ∧ ∀ Kt Kf : Kn → Option R, evGuard ops o kn fr Kt Kf = Kf kn1) := by
  unfold wantT evGuard
  cases hg : o.guard with
  | none => exact ⟨fun h => (by cases h), fun _ => ⟨kn, hk, fun _ _ => rfl⟩, fun h => (by cases h)⟩
  | some gw =>
    obtain ⟨g, want⟩ := gw
    simp only
    cases ht : (ops[g]?).bind (·.dst) with
    | none => exact ⟨fun _ _ _ => rfl, fun h => (by cases h), fun h => (by cases h)⟩
    | some t =>
      simp only
      cases hkg : kn.get t with
      | some b =>
        obtain ⟨q, hq, hb⟩ := hk t b hkg
        have hun : ¬ isUndef (fr.get t) = true := fun h => by rw [boolOf_undef h] at hq; cases hq
        simp only [hun, hq, Option.map_some, if_false, hb]
        by_cases e : b = want
        · simp only [e, decide_true, if_true]
          exact ⟨fun h => (by simp at h), fun _ => ⟨kn, hk, fun _ _ => by simp⟩, fun h => (by simp at h)⟩
        · simp only [e, decide_false, if_false]
          exact ⟨fun h => (by simp at h), fun h => (by simp at h), fun _ => ⟨kn, hk, fun _ _ => by simp⟩⟩
      | none =>
        simp only
        by_cases hun : isUndef (fr.get t) = true
        · simp only [hun, if_true]
          exact ⟨fun h => (by cases h), fun h => (by cases h), fun _ => ⟨kn, hk, fun _ _ => rfl⟩⟩
        · simp only [hun, if_false]
          cases hq : boolOf (fr.get t) with
          | none => exact ⟨fun _ _ _ => rfl, fun h => (by cases h), fun h => (by cases h)⟩
          | some q =>
            simp only [Option.map_some]
            have hite : ∀ (A B : Option R), q.ite A B = if q.get = true then A else B := by
              intro A B
              rcases Bo.ite_cases q A B with ⟨h1, h2⟩ | ⟨h1, h2⟩ <;> rw [h2, h1] <;> rfl
            refine ⟨fun h => (by cases h), fun h => ?_, fun h => ?_⟩
            · have e : q.get = want := by simpa using h
              refine ⟨(t, q.get) :: kn, hk.cons hq rfl, fun Kt Kf => ?_⟩
              rw [hite]
              cases hb : q.get <;> rw [hb] at e <;> subst e <;> simp
            · have e : ¬ q.get = want := by simpa using h
              refine ⟨(t, q.get) :: kn, hk.cons hq rfl, fun Kt Kf => ?_⟩
              rw [hite]
              cases hb : q.get <;> rw [hb] at e <;> simp [e]

theorem evKn_eq {env : Env I R} {kn : Kn} {tk : Bool} {fr : Fr I} {H : Hp I} {o : Op} (hk : KnT kn fr) (K : Kont I R) : evKn P T env kn tk fr H o K = evAny P T env tk fr H o K := by
  unfold evKn
  split
  · rename_i t a b
    have key : ∀ c, kn.get t = some c → evAny P T env tk fr H (.pick (.tmp t) a b) K = K (ev T fr (if c then a else b)).weak fr H := by
      intro c hc
      obtain ⟨q, hq, hb⟩ := hk t c hc
      have : evAny P T env tk fr H (.pick (.tmp t) a b) K = q.ite (K (ev T fr a).weak fr H) (K (ev T fr b).weak fr H) := by
        simp only [evAny, evOp, ev, hq]
      rw [this]
      rcases Bo.ite_cases q (K (ev T fr a).weak fr H) (K (ev T fr b).weak fr H) with ⟨h1, h2⟩ | ⟨h1, h2⟩ <;> rw [h2] <;> rw [h1] at hb <;> subst hb <;> rfl
    split
    · rename_i h; rw [key true h]; rfl
    · rename_i h; rw [key false h]; rfl
    · rfl
  · rfl
end
end Go.Proofs.YtgefikclhfjcgaaDoorEv

namespace Go.Proofs.YtgefikclhfjcgaaDoorEv
open Go Go.RowKit
set_option linter.unusedVariables false
set_option linter.unusedSectionVars false
set_option linter.unusedSimpArgs false

section
variable {I : Nat → Type} {P : Program} {T : Ty I} {R : Type}

theorem slice_H (H H2 : Hp I) (t : TypeId) (x : X I) (lo hi mx : Option (X I)) (K : X I → Option R) : sliceOp P H2 t x lo hi mx K = sliceOp P H t x lo hi mx K := by unfold sliceOp; rfl

theorem pure_const {env : Env I R} (hd : EnvDet env) {L : List Nat} {tk : Bool} {fr : Fr I} {H : Hp I} {op : Op} (hp : pureX T env L tk fr op = true) :
    ∃ r : Option (X I), ∀ H2, (∀ o ∈ L, H2[o]? = H[o]?) → ∀ K : Kont I R, evAny P T env tk fr H2 op K = r.bind fun x => K x fr H2 := by
  cases op <;> simp only [pureX, Bool.false_eq_true, reduceCtorEq] at hp
  case move x =>
    have : tk = false := by simpa using hp
    subst this
    exact ⟨some _, fun H2 _ K => rfl⟩
  case assign x =>
    have : tk = false := by simpa using hp
    subst this
    exact ⟨some _, fun H2 _ K => rfl⟩
  case pick c a b =>
    cases hq : boolOf (ev T fr c) with
    | none => exact ⟨none, fun H2 _ K => by simp only [evAny, evOp, hq]; rfl⟩
    | some q => exact ⟨q.ite (some (ev T fr a).weak) (some (ev T fr b).weak), fun H2 _ K => by simp only [evAny, evOp, hq, bo_one]; rfl⟩
  case build t ps =>
    cases hb : build P t (ps.toList.map fun p => (p.1, ev T fr p.2)) with
    | none => exact ⟨none, fun H2 _ K => by simp only [evAny, evOp, hb]; rfl⟩
    | some cs => exact ⟨some (.y (.agg cs)), fun H2 _ K => by simp only [evAny, evOp, hb]; rfl⟩
  case buildSlice t n ps =>
    cases hb : buildSlice P T t n (ps.toList.map fun p => (p.1, ev T fr p.2)) with
    | none => exact ⟨none, fun H2 _ K => by simp only [evAny, evOp, hb]; rfl⟩
    | some c => exact ⟨some (.c c), fun H2 _ K => by simp only [evAny, evOp, hb]; rfl⟩
  case load t a =>
    cases hu : P.underlying t with
    | none => exact ⟨none, fun H2 _ K => by simp only [evAny, evOp, hu]; rfl⟩
    | some d =>
      simp only [Bool.and_eq_true] at hp
      have : tk = false := by simpa using hp.1
      subst this
      have hp2 := hp.2
      split at hp2
      · rename_i o off e
        have ho : o ∈ L := by simpa using hp2
        refine ⟨(loadAt P T false fr H t (ev T fr a) K3).map (·.1), fun H2 h2 K => ?_⟩
        simp only [evAny, evOp, hu, e, loadAt]
        cases cellsOf P t with
        | none => rfl
        | some n =>
          simp only [h2 o ho]
          cases H[o]? with
          | none => rfl
          | some ob =>
            cases ob <;> simp only <;> first | rfl | skip
            split
            · split <;> rfl
            · rfl
      · rename_i cs off e
        refine ⟨(loadAt P T false fr H t (ev T fr a) K3).map (·.1), fun H2 h2 K => ?_⟩
        simp only [evAny, evOp, hu, e, loadAt]
        cases cellsOf P t with
        | none => rfl
        | some n =>
          simp only
          split
          · split <;> rfl
          · rfl
      · cases hp2
  case nilCheck x =>
    refine ⟨(match ev T fr x with | .y (.one (.ptr o off)) => some (.c (.ptr o off)) | _ => none), fun H2 _ K => ?_⟩
    simp only [evAny, evOp]
    split
    · rename_i o off e; simp only [e]; rfl
    · rename_i hn
      split
      · rename_i o off e; exact absurd e (hn o off)
      · rfl
  case binOp op t x y yt => exact ⟨(binOp P op t (ev T fr x) (ev T fr y) some).map X.c, fun H2 _ K => by simp only [evAny, evOp]; rw [binOp_one]; cases binOp P op t (ev T fr x) (ev T fr y) some <;> rfl⟩
  case unOp op t x => exact ⟨(unOp op (ev T fr x) some).map X.c, fun H2 _ K => by simp only [evAny, evOp]; rw [unOp_one]; cases unOp op (ev T fr x) some <;> rfl⟩
  case convert s d x => exact ⟨(convert P T s d (ev T fr x) some).map X.c, fun H2 _ K => by simp only [evAny, evOp]; rw [convert_one]; cases convert P T s d (ev T fr x) some <;> rfl⟩
  case makeFunc f first cs =>
    cases f with
    | func f =>
      by_cases h1 : first.isEmpty = true
      · cases hc : cs.toList.mapM (fun x => capOf (ev T fr x)) with
        | none => exact ⟨none, fun H2 _ K => by simp only [evAny, evOp, h1, hc, if_true]; rfl⟩
        | some caps => exact ⟨some (.fn f caps), fun H2 _ K => by simp only [evAny, evOp, h1, hc, if_true]; rfl⟩
      · exact ⟨none, fun H2 _ K => by simp only [evAny, evOp, h1, if_false]; rfl⟩
    | _ => exact ⟨none, fun H2 _ K => rfl⟩
  case slice t x lo hi mx =>
    refine ⟨sliceOp P H t (ev T fr x) (lo.map (ev T fr)) (hi.map (ev T fr)) (mx.map (ev T fr)) some, fun H2 _ K => ?_⟩
    simp only [evAny, evOp]
    rw [slice_H H H2, sliceOp_one]
  case fieldAddr s x f =>
    refine ⟨(evOp P T false fr H (.fieldAddr s x f) K3).map (·.1), fun H2 _ K => ?_⟩
    simp only [evAny, evOp]
    split <;> first | rfl | (split <;> rfl)
  case field t x f =>
    refine ⟨(evOp P T false fr H (.field t x f) K3).map (·.1), fun H2 _ K => ?_⟩
    simp only [evAny, evOp]
    split
    · split
      · split
        · split
          · rfl
          · split <;> rfl
        · rfl
      · rfl
    · rfl
  case indexAddr t x i =>
    refine ⟨indexAddr P T H t (ev T fr x) (ev T fr i) some, fun H2 _ K => ?_⟩
    have : indexAddr P T H2 t (ev T fr x) (ev T fr i) some = indexAddr P T H t (ev T fr x) (ev T fr i) some := by
      unfold indexAddr
      split at hp
      · cases hp
      · cases hp
      · rename_i n1 n2
        split
        · rename_i q1 q2 q3 e o e' k n q4 q5 q6; exact absurd q5 (n1 _ _)
        · rfl
        · rename_i q1 q2 q3 len e o k n q4 q5 q6; exact absurd q5 (n2 _ _)
        · rfl
        · rfl
    simp only [evAny, evOp]
    rw [indexAddr_one, this]
  case index t x i =>
    refine ⟨(evOp P T false fr H (.index t x i) K3).map (·.1), fun H2 _ K => ?_⟩
    simp only [evAny, evOp]
    split
    · split
      · split <;> rfl
      · rfl
    · rfl
  case extract t i =>
    refine ⟨(evOp P T false fr H (.extract t i) K3).map (·.1), fun H2 _ K => ?_⟩
    simp only [evAny, evOp]
    split
    · split <;> rfl
    · rfl
  case call c =>
    obtain ⟨cal, args, ts⟩ := c
    cases cal with
    | builtin b =>
      cases b <;> simp only [Bool.false_eq_true, reduceCtorEq] at hp
      split at hp
      · rename_i x hx
        split at hp
        · cases hp
        · cases hp
        · rename_i n1 n2
          refine ⟨(evOp P T false fr H (.call { callee := .builtin .len, args := args, argTypes := ts }) K3).map (·.1), fun H2 _ K => ?_⟩
          simp only [evAny, evOp, hx]
          cases hts : ts.toList with
          | nil => rfl
          | cons t1 ts1 =>
            cases ts1 with
            | cons _ _ => rfl
            | nil =>
              simp only
              unfold lenAt
              split
              · rfl
              · rfl
              · rename_i q1 q2 q3 q4 e; exact absurd e (n1 _ _)
              · split <;> rfl
              · rename_i q1 q2 q3 q4 e; exact absurd e (n2 _)
              · rfl
      · cases hp
    | value f =>
      simp only at hp
      simp only [evAny, evCall]
      cases hf : ev T fr f with
      | fn g caps =>
        rw [hf] at hp
        simp only at hp ⊢
        cases he : env.fn g with
        | none => rw [he] at hp; cases hp
        | some e =>
          rw [he] at hp
          simp only [Bool.and_eq_true, List.isEmpty_iff] at hp
          have hdr : ∀ (args : List Operand) (j : Nat) (fr : Fr I), dropArgs fr e.own j args = fr := by
            intro args
            induction args with
            | nil => intro j fr; rfl
            | cons x xs ih => intro j fr; simp only [dropArgs, hp.2]; simpa [hp.2] using ih (j + 1) fr
          simp only [hdr]
          by_cases ht : twice (ownTmps e.own 0 args.toList) = true
          · exact ⟨none, fun H2 _ K => by rw [if_pos ht]; rfl⟩
          · rcases hd.pure g e (argsOf T fr e.own 0 args.toList ++ caps.map fun c => X.c c.weak) he hp.1 with h | ⟨x, h⟩
            · exact ⟨none, fun H2 _ K => by rw [if_neg ht]; exact h _ _⟩
            · exact ⟨some x, fun H2 _ K => by rw [if_neg ht]; exact h _ _⟩
      | _ => rw [hf] at hp; cases hp
    | invoke r m => cases hp
end
end Go.Proofs.YtgefikclhfjcgaaDoorEv

namespace Go.Proofs.YtgefikclhfjcgaaDoorEv
open Go Go.RowKit
set_option linter.unusedVariables false
set_option linter.unusedSectionVars false
set_option linter.unusedSimpArgs false

section
variable {I : Nat → Type} (P : Program) (T : Ty I) {R : Type}

open Classical in
/-- What an operation comes to: its value, the variables then. -/
noncomputable def leaf (env : Env I R) (tk : Bool) (fr : Fr I) (H : Hp I) (op : Op) : Option (X I × Hp I) :=
  if h : ∃ p : X I × Hp I, ∀ K : Kont I R, evAny P T env tk fr H op K = K p.1 (dropAny T env tk fr op) p.2 then some (Classical.choose h) else none
/-- One operation of a region, by what its bool is. -/
noncomputable def stepT (env : Env I R) (rid : Nat) (ops : Array Oper) (j : Nat) (fr : Fr I) (H : Hp I) : Option (Fr I × Hp I) :=
  match ops[j]? with
  | none => none
  | some o =>
    match wantT ops o fr with
    | none => none
    | some false => some (putD fr o.dst (.tup []), H)
    | some true => (leaf P T env (env.tk.contains (rid, j)) fr H o.op).map fun p => (putD (dropAny T env (env.tk.contains (rid, j)) fr o.op) o.dst p.1, p.2)
noncomputable def runT (env : Env I R) (rid : Nat) (ops : Array Oper) : List Nat → Fr I → Hp I → Option (Fr I × Hp I)
  | [], fr, H => some (fr, H)
  | j :: js, fr, H => (stepT P T env rid ops j fr H).bind fun p => runT env rid ops js p.1 p.2
end

section
variable {I : Nat → Type} {P : Program} {T : Ty I} {R : Type}

theorem leaf_of {env : Env I R} (hd : EnvDet env) (tk : Bool) (fr : Fr I) (H : Hp I) (op : Op) :
    (leaf P T env tk fr H op = none ∧ ∀ K : Kont I R, evAny P T env tk fr H op K = none) ∨ ∃ p, leaf P T env tk fr H op = some p ∧ ∀ K : Kont I R, evAny P T env tk fr H op K = K p.1 (dropAny T env tk fr op) p.2 := by
  unfold leaf
  split
  · rename_i h; exact .inr ⟨_, rfl, Classical.choose_spec h⟩
  · rename_i h
    rcases evAny_det (P := P) (T := T) hd tk fr H op with h1 | ⟨x, H', h1⟩
    · exact .inl ⟨rfl, h1⟩
    · exact absurd ⟨(x, H'), h1⟩ h

/-- Where there is something to come to, an operation comes to one thing. -/
theorem leaf_eq {env : Env I R} (out : R) {tk : Bool} {fr : Fr I} {H : Hp I} {op : Op} {x : X I} {H' : Hp I} (h : ∀ K : Kont I R, evAny P T env tk fr H op K = K x (dropAny T env tk fr op) H') : leaf P T env tk fr H op = some (x, H') := by
  have hex : ∃ p : X I × Hp I, ∀ K : Kont I R, evAny P T env tk fr H op K = K p.1 (dropAny T env tk fr op) p.2 := ⟨(x, H'), h⟩
  unfold leaf
  rw [dif_pos hex]
  have h2 := Classical.choose_spec hex
  have h3 := fun K => (h K).symm.trans (h2 K)
  have : Classical.choose hex = (x, H') := by
    classical
    have := h3 (fun a _ c => if (a, c) = (x, H') then some out else none)
    simp only [if_true] at this
    by_cases e : ((Classical.choose hex).1, (Classical.choose hex).2) = (x, H')
    · exact e
    · rw [if_neg e] at this; cases this
  rw [this]

theorem KnT.put {kn : Kn} {fr fr' : Fr I} {d : Option Nat} {x : X I} (h : KnT kn fr) (hf : ∀ t, boolOf (fr'.get t) = boolOf (fr.get t)) : KnT (kn.drop d) (putD fr' d x) := by
  intro t b ht
  obtain ⟨h1, h2⟩ := Kn.get_drop ht
  obtain ⟨q, hq, hb⟩ := h t b h1
  refine ⟨q, ?_, hb⟩
  cases d with
  | none => simp only [putD]; rw [hf]; exact hq
  | some s =>
    simp only [putD, get_put]
    rw [if_neg (fun e => h2 s rfl e.1), hf]; exact hq

theorem dropAny_bool (env : Env I R) (tk : Bool) (fr : Fr I) (op : Op) (t : Nat) : boolOf ((dropAny T env tk fr op).get t) = boolOf (fr.get t) := by
  rcases dropAny_get (T := T) env tk fr op t with h | ⟨_, h⟩
  · rw [h]
  · rw [h, boolOf_weak]

theorem evStep_T {env : Env I R} (hd : EnvDet env) {rid : Nat} {ops : Array Oper} {j : Nat} {o : Oper} (hj : ops[j]? = some o) {kn : Kn} {fr : Fr I} {H : Hp I} (hk : KnT kn fr) :
    (stepT P T env rid ops j fr H = none ∧ ∀ K : Kn → Fr I → Hp I → Option R, evStep P T env rid ops j o kn fr H K = none) ∨
    ∃ p kn', stepT P T env rid ops j fr H = some p ∧ KnT kn' p.1 ∧ ∀ K : Kn → Fr I → Hp I → Option R, evStep P T env rid ops j o kn fr H K = K kn' p.1 p.2 := by
  obtain ⟨g1, g2, g3⟩ := evGuard_T (R := R) (ops := ops) (o := o) hk
  unfold stepT evStep
  rw [hj]
  simp only
  cases hw : wantT ops o fr with
  | none => exact .inl ⟨rfl, fun K => g1 hw _ _⟩
  | some b =>
    cases b with
    | false =>
      obtain ⟨kn1, h1, h2⟩ := g3 hw
      exact .inr ⟨_, kn1.drop o.dst, rfl, h1.put (fun _ => rfl), fun K => h2 _ _⟩
    | true =>
      obtain ⟨kn1, h1, h2⟩ := g2 hw
      simp only [h2]
      rcases leaf_of (P := P) (T := T) hd (env.tk.contains (rid, j)) fr H o.op with ⟨l1, l2⟩ | ⟨p, l1, l2⟩
      · exact .inl ⟨by rw [l1]; rfl, fun K => by rw [evKn_eq h1]; exact l2 _⟩
      · exact .inr ⟨_, kn1.drop o.dst, by rw [l1]; rfl, h1.put (fun t => dropAny_bool env _ fr o.op t), fun K => by rw [evKn_eq h1]; exact l2 _⟩

theorem evOps_T {env : Env I R} (hd : EnvDet env) {rid : Nat} {ops : Array Oper} {K : Fr I → Hp I → Option R} : ∀ (js : List Nat) (kn : Kn) (fr : Fr I) (H : Hp I), KnT kn fr → evOps P T env rid ops js kn fr H K = (runT P T env rid ops js fr H).bind fun p => K p.1 p.2
  | [], kn, fr, H, hk => rfl
  | j :: js, kn, fr, H, hk => by
    simp only [evOps, runT]
    cases hj : ops[j]? with
    | none => simp only [stepT, hj]; rfl
    | some o =>
      simp only
      rcases evStep_T (P := P) (T := T) hd (rid := rid) hj (H := H) hk with ⟨h1, h2⟩ | ⟨p, kn', h1, h2, h3⟩
      · rw [h1, h2]; rfl
      · rw [h1, h3, evOps_T hd js kn' p.1 p.2 h2]; rfl

theorem ev_of {fr fr' : Fr I} {z : Operand} (h : ∀ t, z = .tmp t → fr'.get t = fr.get t) : ev T fr' z = ev T fr z := by
  cases z with
  | tmp t => exact h t rfl
  | _ => rfl
theorem looks_op {ops : Array Oper} {o : Oper} {z : Operand} {t : Nat} (hz : z ∈ o.op.operands) (e : z = .tmp t) : t ∈ o.looksAt ops := by
  subst e
  exact List.mem_append_left _ (List.mem_filterMap.2 ⟨.tmp t, by simpa using hz, rfl⟩)
theorem wantT_of {ops : Array Oper} {o : Oper} {fr fr' : Fr I} (h : ∀ t ∈ o.looksAt ops, fr'.get t = fr.get t) : wantT ops o fr' = wantT ops o fr := by
  unfold wantT
  cases hg : o.guard with
  | none => rfl
  | some gw =>
    obtain ⟨g, want⟩ := gw
    simp only
    cases ht : (ops[g]?).bind (·.dst) with
    | none => rfl
    | some t =>
      have : fr'.get t = fr.get t := h t (by simp [Oper.looksAt, hg, ht])
      simp only [this]

theorem drop_put {fr : Fr I} {z : Operand} {d : Nat} {x : X I} (h : z ≠ .tmp d) : drop (fr.put d x) z = (drop fr z).put d x := by
  cases z with
  | tmp t =>
    have hne : t ≠ d := fun e => h (by rw [e])
    simp only [drop]
    have : (fr.put d x).get t = fr.get t := by rw [get_put, if_neg (fun e => hne e.1)]
    rw [this]
    simp only [Fr.put]
    exact List.set_comm _ _ (Ne.symm hne)
  | _ => rfl
theorem dropArgs_put {d : Nat} {x : X I} (own : List Nat) : ∀ (args : List Operand) (j : Nat) (fr : Fr I), (∀ z ∈ args, z ≠ .tmp d) → dropArgs (fr.put d x) own j args = (dropArgs fr own j args).put d x
  | [], _, _, _ => rfl
  | z :: zs, j, fr, h => by
    simp only [dropArgs]
    rw [← dropArgs_put own zs (j + 1) _ (fun z hz => h z (by simp [hz]))]
    split
    · rw [drop_put (h z (by simp))]
    · rfl
theorem dropAny_put {env : Env I R} {tk : Bool} {fr : Fr I} {op : Op} {d : Nat} {x : X I} (h : ∀ z ∈ op.operands, z ≠ .tmp d) : dropAny T env tk (fr.put d x) op = (dropAny T env tk fr op).put d x := by
  cases op <;> simp only [dropAny, dropOp] <;> first | rfl | skip
  case move z => split <;> first | exact drop_put (h z (by simp [Op.operands])) | rfl
  case assign z => split <;> first | exact drop_put (h z (by simp [Op.operands])) | rfl
  case box t z => exact drop_put (h z (by simp [Op.operands]))
  case store t a v => exact drop_put (h v (by simp [Op.operands]))
  case mapUpdate t m x v => exact drop_put (h v (by simp [Op.operands]))
  case call c =>
    obtain ⟨cal, args, ts⟩ := c
    cases cal with
    | value f =>
      simp only
      have hf : ev T (fr.put d x) f = ev T fr f := ev_of fun t e => by
        rw [get_put, if_neg]; rintro ⟨rfl, _⟩; exact h f (by simp [Op.operands, Call.operands]) e
      rw [hf]
      split
      · split
        · exact dropArgs_put _ _ _ _ fun z hz => h z (by simp [Op.operands, Call.operands]; exact .inr (by simpa using hz))
        · rfl
      · rfl
    | builtin b =>
      cases b <;> simp only [dropOp] <;> first | rfl | skip
      split
      · rename_i z zs hz
        exact drop_put (h z (by have : z ∈ args.toList := by rw [hz]; simp
                                simp [Op.operands, Call.operands]; simpa using this))
      · rfl
    | invoke r m => rfl

/-- Another slot makes no difference to an operation that doesn't look at it. -/
theorem stepT_put {env : Env I R} (out : R) (hd : EnvDet env) {rid : Nat} {ops : Array Oper} {j : Nat} {o : Oper} (hj : ops[j]? = some o) {fr : Fr I} {H : Hp I} {d : Option Nat} {x : X I} (h1 : ∀ s, d = some s → s ∉ o.looksAt ops) (h2 : ∀ s, d = some s → o.dst ≠ some s) :
    stepT P T env rid ops j (putD fr d x) H = (stepT P T env rid ops j fr H).map fun p => (putD p.1 d x, p.2) := by
  cases d with
  | none => simp only [putD]; cases stepT P T env rid ops j fr H <;> rfl
  | some d =>
    have hn1 := h1 d rfl
    have hn2 := h2 d rfl
    have hop : ∀ z ∈ o.op.operands, z ≠ .tmp d := fun z hz e => hn1 (looks_op hz e)
    have hget : ∀ t, t ≠ d → (fr.put d x).get t = fr.get t := fun t ht => by rw [get_put, if_neg (fun e => ht e.1)]
    have hw : wantT ops o (fr.put d x) = wantT ops o fr := wantT_of fun t ht => hget t (fun e => hn1 (e ▸ ht))
    have hev : ∀ z ∈ o.op.operands, ev T (fr.put d x) z = ev T fr z := fun z hz => ev_of fun t e => hget t (fun e2 => hop z hz (by rw [e, e2]))
    have hcomm : ∀ (f : Fr I) (y : X I), putD (f.put d x) o.dst y = (putD f o.dst y).put d x := by
      intro f y
      cases hdst : o.dst with
      | none => rfl
      | some s =>
        have : s ≠ d := fun e => hn2 (by rw [hdst, e])
        simp only [putD, Fr.put]
        exact List.set_comm _ _ (Ne.symm this)
    unfold stepT
    rw [hj]
    simp only [putD, hw]
    cases wantT ops o fr with
    | none => rfl
    | some b =>
      cases b with
      | false => simp only [Option.map_some]; exact congrArg some (Prod.ext (hcomm fr _) rfl)
      | true =>
        simp only
        have hl : leaf P T env (env.tk.contains (rid, j)) (fr.put d x) H o.op = leaf P T env (env.tk.contains (rid, j)) fr H o.op := by
          rcases leaf_of (P := P) (T := T) hd (env.tk.contains (rid, j)) fr H o.op with ⟨l1, l2⟩ | ⟨p, l1, l2⟩
          · rw [l1]
            rcases leaf_of (P := P) (T := T) hd (env.tk.contains (rid, j)) (fr.put d x) H o.op with ⟨l3, l4⟩ | ⟨p, l3, l4⟩
            · exact l3
            · have := l4 (fun _ _ _ => some out)
              rw [evAny_congr hev, l2] at this; cases this
          · rw [l1]
            exact leaf_eq out (fun K => by rw [evAny_congr hev, l2])
        rw [hl, dropAny_put hop]
        cases leaf P T env (env.tk.contains (rid, j)) fr H o.op with
        | none => rfl
        | some p => simp only [Option.map_some]; exact congrArg some (Prod.ext (hcomm _ _) rfl)

/-- An operation whose value stays 'x', wherever its slots and the variables of L are as they are here. -/
def PureAt (P : Program) (T : Ty I) (env : Env I R) (rid : Nat) (ops : Array Oper) (L : List Nat) (i : Nat) (o : Oper) (fr : Fr I) (H : Hp I) (x : X I) : Prop :=
  ∀ fr2 H2, (∀ t ∈ o.looksAt ops, fr2.get t = fr.get t) → (∀ q ∈ L, H2[q]? = H[q]?) → stepT P T env rid ops i fr2 H2 = some (putD fr2 o.dst x, H2)

theorem PureAt.mono {env : Env I R} {rid : Nat} {ops : Array Oper} {L : List Nat} {i : Nat} {o : Oper} {fr fr' : Fr I} {H H' : Hp I} {x : X I} (h : PureAt P T env rid ops L i o fr H x)
    (hf : ∀ t ∈ o.looksAt ops, fr'.get t = fr.get t) (hH : ∀ q ∈ L, H'[q]? = H[q]?) : PureAt P T env rid ops L i o fr' H' x :=
  fun fr2 H2 h1 h2 => h fr2 H2 (fun t ht => (h1 t ht).trans (hf t ht)) (fun q hq => (h2 q hq).trans (hH q hq))

theorem pureX_drop {env : Env I R} {L : List Nat} {tk : Bool} {fr fr2 : Fr I} {op : Op} (hp : pureX T env L tk fr op = true) (hev : ∀ z ∈ op.operands, ev T fr2 z = ev T fr z) : dropAny T env tk fr2 op = fr2 := by
  cases op <;> simp only [pureX, Bool.false_eq_true, reduceCtorEq] at hp <;> simp only [dropAny, dropOp]
  case move x => have : tk = false := by simpa using hp
                 subst this; rfl
  case assign x => have : tk = false := by simpa using hp
                   subst this; rfl
  case call c =>
    obtain ⟨cal, args, ts⟩ := c
    cases cal with
    | builtin b => cases b <;> simp only [Bool.false_eq_true, reduceCtorEq] at hp <;> rfl
    | value f =>
      simp only at hp ⊢
      rw [hev f (by simp [Op.operands, Call.operands])]
      cases hf : ev T fr f with
      | fn g caps =>
        rw [hf] at hp
        simp only at hp ⊢
        cases he : env.fn g with
        | none => rfl
        | some e =>
          rw [he] at hp
          simp only [Bool.and_eq_true, List.isEmpty_iff] at hp
          have hdr : ∀ (args : List Operand) (j : Nat) (fr : Fr I), dropArgs fr e.own j args = fr := by
            intro args
            induction args with
            | nil => intro j fr; rfl
            | cons x xs ih => intro j fr; simp only [dropArgs, hp.2]; simpa [hp.2] using ih (j + 1) fr
          exact hdr _ _ _
      | _ => rfl
    | invoke r m => cases hp

theorem pureAt_of {env : Env I R} (out : R) (hd : EnvDet env) {rid : Nat} {ops : Array Oper} {L : List Nat} {i : Nat} {o : Oper} (hi : ops[i]? = some o) {fr : Fr I} {H : Hp I} {p : Fr I × Hp I} (hs : stepT P T env rid ops i fr H = some p)
    (h : wantT ops o fr = some true → pureX T env L (env.tk.contains (rid, i)) fr o.op = true) : ∃ x, PureAt P T env rid ops L i o fr H x := by
  unfold stepT at hs
  rw [hi] at hs
  simp only at hs
  cases hw : wantT ops o fr with
  | none => rw [hw] at hs; cases hs
  | some b =>
    cases b with
    | false =>
      refine ⟨.tup [], fun fr2 H2 h1 h2 => ?_⟩
      unfold stepT
      rw [hi]
      simp only [wantT_of h1, hw]
    | true =>
      rw [hw] at hs
      simp only at hs
      have hp := h hw
      obtain ⟨r, hr⟩ := pure_const (P := P) (T := T) hd (H := H) hp
      cases r with
      | none =>
        rcases leaf_of (P := P) (T := T) hd (env.tk.contains (rid, i)) fr H o.op with ⟨l1, l2⟩ | ⟨q, l1, l2⟩
        · rw [l1] at hs; cases hs
        · have h3 := l2 (fun _ _ _ => some out)
          rw [hr H (fun _ _ => rfl)] at h3; cases h3
      | some x =>
        refine ⟨x, fun fr2 H2 h1 h2 => ?_⟩
        have hev : ∀ z ∈ o.op.operands, ev T fr2 z = ev T fr z := fun z hz => ev_of fun t e => h1 t (looks_op hz e)
        have hdrop := pureX_drop hp hev
        have hl : leaf P T env (env.tk.contains (rid, i)) fr2 H2 o.op = some (x, H2) := leaf_eq out fun K => by
          rw [evAny_congr hev, hr H2 h2]; rfl
        unfold stepT
        rw [hi]
        simp only [wantT_of h1, hw, hl, Option.map_some, hdrop]

theorem stepT_get {env : Env I R} {rid : Nat} {ops : Array Oper} {j : Nat} {o : Oper} (hj : ops[j]? = some o) {fr : Fr I} {H : Hp I} {p : Fr I × Hp I} (hs : stepT P T env rid ops j fr H = some p) {t : Nat}
    (h1 : t ∉ takesOf (env.tk.contains (rid, j)) o.op) (h2 : o.dst ≠ some t) : p.1.get t = fr.get t := by
  have hput : ∀ (f : Fr I) (x : X I), (putD f o.dst x).get t = f.get t := by
    intro f x
    cases hd : o.dst with
    | none => rfl
    | some s => simp only [putD, get_put]; rw [if_neg]; rintro ⟨rfl, _⟩; exact h2 hd
  unfold stepT at hs
  rw [hj] at hs
  simp only at hs
  cases hw : wantT ops o fr with
  | none => rw [hw] at hs; cases hs
  | some b =>
    rw [hw] at hs
    cases b with
    | false => cases hs; exact hput _ _
    | true =>
      simp only at hs
      obtain ⟨q, _, rfl⟩ := Option.map_eq_some_iff.1 hs
      simp only [hput]
      rcases dropAny_get (T := T) env (env.tk.contains (rid, j)) fr o.op t with g | ⟨g, _⟩
      · exact g
      · exact absurd g h1
end
end Go.Proofs.YtgefikclhfjcgaaDoorEv

namespace Go.Proofs.YtgefikclhfjcgaaDoorEv
open Go Go.RowKit
set_option linter.unusedVariables false
set_option linter.unusedSectionVars false
set_option linter.unusedSimpArgs false

section
variable {I : Nat → Type} {P : Program} {T : Ty I} {R : Type}

/-- The variables of L stand as they were. -/
def Kept (L : List Nat) (H H' : Hp I) : Prop := H.length ≤ H'.length ∧ ∀ q ∈ L, q < H.length → H'[q]? = H[q]?
theorem Kept.refl (L : List Nat) (H : Hp I) : Kept L H H := ⟨Nat.le_refl _, fun _ _ _ => rfl⟩
theorem Kept.app (L : List Nat) (H : Hp I) (x : O I) : Kept L H (H ++ [x]) := ⟨by simp, fun q _ h => by rw [List.getElem?_append_left h]⟩
theorem Kept.set {L : List Nat} {H : Hp I} {o : Nat} {x : O I} (h : L.contains o = false) : Kept L H (H.set o x) := ⟨by simp, fun q hq _ => by
  rw [List.getElem?_set_ne]; rintro rfl; simp at h; exact h hq⟩

theorem loadAt_kept {L : List Nat} {tk : Bool} {fr f : Fr I} {H H' : Hp I} {t : TypeId} {a x : X I} (hk : ∀ o off, a = .y (.one (.ptr o off)) → tk = true → L.contains o = false) (h : loadAt P T tk fr H t a K3 = some (x, f, H')) : Kept L H H' := by
  unfold loadAt at h
  split at h
  · split at h
    · split at h
      · split at h
        · simp only [K3, Option.some.injEq, Prod.mk.injEq] at h
          obtain ⟨_, _, rfl⟩ := h
          split
          · rename_i htk
            exact Kept.set (hk _ _ rfl htk)
          · exact Kept.refl ..
        · cases h
      · cases h
    · cases h
  · split at h
    · split at h
      · cases h; exact Kept.refl ..
      · cases h
    · cases h
  · split at h
    · split at h
      · split at h
        · cases h; exact Kept.refl ..
        · cases h
      · cases h
    · cases h
  · cases h

theorem storeAt_kept {L : List Nat} {fr : Fr I} {H : Hp I} {t : TypeId} {a v : X I} {r : Fr I × Hp I} (hk : ∀ o, ((∃ off, a = .y (.one (.ptr o off))) ∨ ∃ e i off, a = .rp o e i off) → L.contains o = false) (h : storeAt P T fr H t a v (fun fr H => some (fr, H)) = some r) : Kept L H r.2 := by
  unfold storeAt at h
  split at h
  · split at h
    · split at h
      · split at h
        · cases h
          exact Kept.set (hk _ (.inl ⟨_, rfl⟩))
        · cases h
      · cases h
    · cases h
  · split at h
    · split at h
      · split at h
        · cases h
          exact Kept.set (hk _ (.inr ⟨_, _, _, rfl⟩))
        · cases h
      · cases h
    · cases h
  · cases h

theorem one_kept {α : Type} {L : List Nat} {H H' : Hp I} {fr f : Fr I} {x : X I} {g : Option α} {m : α → X I} {fr1 : Fr I} (h : (g.bind fun c => K3 (m c) fr1 H) = some (x, f, H')) : Kept L H H' := by
  cases g with
  | none => cases h
  | some c => cases h; exact Kept.refl ..

theorem updateAt_kept {L : List Nat} {fr : Fr I} {H : Hp I} {t : TypeId} {m x v : X I} {r : Fr I × Hp I} (hk : mapKeeps L m = true) (h : updateAt P T fr H t m x v (fun fr H => some (fr, H)) = some r) : Kept L H r.2 := by
  unfold updateAt at h
  split at h
  · split at h
    · split at h
      · split at h
        · cases h; exact Kept.set (by simpa [mapKeeps] using hk)
        · cases h
      · cases h
    · cases h
  · cases h
theorem deleteAt_kept {L : List Nat} {H H' : Hp I} {t : TypeId} {m x : X I} (hk : mapKeeps L m = true) (h : deleteAt P T H t m x some = some H') : Kept L H H' := by
  unfold deleteAt at h
  split at h
  · split at h
    · split at h
      · split at h
        · cases h; exact Kept.set (by simpa [mapKeeps] using hk)
        · cases h
      · cases h
    · cases h
  · cases h
theorem clearAt_kept {L : List Nat} {H H' : Hp I} {t : TypeId} {m : X I} (hk : mapKeeps L m = true) (h : clearAt P H t m some = some H') : Kept L H H' := by
  unfold clearAt at h
  split at h
  · split at h
    · cases h; exact Kept.set (by simpa [mapKeeps] using hk)
    · cases h
  · cases h

theorem evOp_kept {env : Env I R} {L : List Nat} {tk : Bool} {fr f : Fr I} {H H' : Hp I} {op : Op} {x : X I} (hk : keepsX T env L tk fr op = true) (h : evOp P T tk fr H op K3 = some (x, f, H')) : Kept L H H' := by
  cases op <;> simp only [evOp, reduceCtorEq] at h
  case move z => split at h <;> (cases h; exact Kept.refl ..)
  case assign z => split at h <;> (cases h; exact Kept.refl ..)
  case pick c a b =>
    split at h
    · rename_i q hq
      rcases Bo.ite_cases q (K3 (ev T fr a).weak fr H) (K3 (ev T fr b).weak fr H) with ⟨_, h2⟩ | ⟨_, h2⟩ <;> rw [h2] at h <;> (cases h; exact Kept.refl ..)
    · cases h
  case alloc t =>
    split at h
    · split at h
      · split at h
        · cases h; exact Kept.app ..
        · cases h
      · cases h
    · cases h; exact Kept.app ..
    · cases h
  case box t z =>
    split at h
    · cases h
    · cases h; exact Kept.app ..
    · cases h
  case build t ps => split at h <;> first | (cases h; exact Kept.refl ..) | cases h
  case buildSlice t n ps => split at h <;> first | (cases h; exact Kept.refl ..) | cases h
  case load t a =>
    split at h
    · exact loadAt_kept (fun o off e ht => by simp only [keepsX, e, ht] at hk; simpa using hk) h
    · cases h
  case store t a v =>
    rw [storeAt_one] at h
    cases hs : storeAt P T (drop fr v) H t (ev T fr a) (ev T fr v) (fun fr H => some (fr, H)) with
    | none => rw [hs] at h; cases h
    | some r =>
      rw [hs] at h
      cases h
      exact storeAt_kept (fun o q => by rcases q with ⟨off, e⟩ | ⟨e1, i, off, e⟩ <;> (simp only [keepsX, e] at hk; simpa using hk)) hs
  case nilCheck z => split at h <;> first | (cases h; exact Kept.refl ..) | cases h
  case binOp op t a b yt => rw [binOp_one] at h; exact one_kept (fr := fr) h
  case unOp op t a => rw [unOp_one] at h; exact one_kept (fr := fr) h
  case convert s d a => rw [convert_one] at h; exact one_kept (fr := fr) h
  case makeFunc fn first cs =>
    cases fn <;> simp only [evOp, reduceCtorEq] at h
    split at h
    · split at h
      · cases h; exact Kept.refl ..
      · cases h
    · cases h
  case makeSlice t n m =>
    cases n <;> cases m <;> simp only [evOp, reduceCtorEq] at h
    split at h
    · split at h
      · split at h
        · split at h
          · split at h
            · split at h
              · cases h; exact Kept.app ..
              · cases h
            · cases h
          · cases h
        · cases h
      · cases h
    · cases h
  case makeMap t r =>
    cases r <;> simp only [evOp, reduceCtorEq] at h
    split at h
    · split at h
      · cases h; exact Kept.app ..
      · cases h
    · cases h
  case lookup t m z ok => rw [lookupAt_one] at h; exact one_kept (fr := fr) (m := id) h
  case mapUpdate t m z v =>
    rw [updateAt_one] at h
    simp only [keepsX] at hk
    cases hs : updateAt P T (drop fr v) H t (ev T fr m) (ev T fr z) (ev T fr v) (fun fr H => some (fr, H)) with
    | none => rw [hs] at h; cases h
    | some r => rw [hs] at h; cases h; exact updateAt_kept hk hs
  case slice t z lo hi mx => rw [sliceOp_one] at h; exact one_kept (fr := fr) (m := id) h
  case fieldAddr s z fl => split at h <;> first | cases h | (split at h <;> first | (cases h; done) | (cases h; exact Kept.refl ..))
  case field t z fl =>
    split at h
    · split at h
      · split at h
        · split at h
          · cases h
          · split at h
            · cases h; exact Kept.refl ..
            · cases h
        · cases h
      · cases h
    · cases h
  case indexAddr t z i => rw [indexAddr_one] at h; exact one_kept (fr := fr) (m := id) h
  case index t z i =>
    split at h
    · split at h
      · split at h
        · cases h; exact Kept.refl ..
        · cases h
      · cases h
    · cases h
  case extract t i =>
    split at h
    · split at h
      · cases h; exact Kept.refl ..
      · cases h
    · cases h
  case call c =>
    obtain ⟨cal, args, ts⟩ := c
    cases cal with
    | builtin b =>
      simp only at h
      split at h
      · rw [lenAt_one] at h; exact one_kept (fr := fr) (m := id) h
      · rename_i m z t u hx ht
        rw [deleteAt_one] at h
        simp only [keepsX, hx] at hk
        cases hd : deleteAt P T H t (ev T fr m) (ev T fr z) some with
        | none => rw [hd] at h; cases h
        | some H2 => rw [hd] at h; cases h; exact deleteAt_kept hk hd
      · rename_i m t hx ht
        rw [clearAt_one] at h
        simp only [keepsX, hx] at hk
        cases hd : clearAt P H t (ev T fr m) some with
        | none => rw [hd] at h; cases h
        | some H2 => rw [hd] at h; cases h; exact clearAt_kept hk hd
      · split at h
        · rw [append_one] at h; exact one_kept (fr := fr) h
        · rw [append_one] at h; exact one_kept (fr := fr) h
        · cases h
      · cases h
    | value f => cases h
    | invoke r m => cases h

theorem leaf_kept {env : Env I R} (out : R) (hd : EnvDet env) {L : List Nat} {tk : Bool} {fr : Fr I} {H : Hp I} {op : Op} {p : X I × Hp I} (hk : keepsX T env L tk fr op = true) (hl : leaf P T env tk fr H op = some p) : Kept L H p.2 := by
  have hsp : ∀ K : Kont I R, evAny P T env tk fr H op K = K p.1 (dropAny T env tk fr op) p.2 := by
    rcases leaf_of (P := P) (T := T) hd tk fr H op with ⟨l1, _⟩ | ⟨q, l1, l2⟩
    · rw [l1] at hl; cases hl
    · rw [l1] at hl; cases hl; exact l2
  by_cases hop : ∃ f args ts, op = .call { callee := .value f, args := args, argTypes := ts }
  · obtain ⟨f, args, ts, rfl⟩ := hop
    simp only [keepsX] at hk
    simp only [evAny, evCall, dropAny] at hsp
    cases hf : ev T fr f with
    | fn g caps =>
      rw [hf] at hk hsp
      simp only at hk hsp
      cases he : env.fn g with
      | none => rw [he] at hsp; have := hsp (fun _ _ _ => some out); cases this
      | some e =>
        rw [he] at hk hsp
        simp only at hk hsp
        by_cases ht : twice (ownTmps e.own 0 args.toList) = true
        · have := hsp (fun _ _ _ => some out); rw [if_pos ht] at this; cases this
        · rcases hd.det g e (argsOf T fr e.own 0 args.toList ++ caps.map fun c => X.c c.weak) H he with h | ⟨x, H', h, h2, h3⟩
          · have := hsp (fun _ _ _ => some out); rw [if_neg ht, h] at this; cases this
          · have hp : p.2 = H' := by
              classical
              have := hsp (fun _ _ c => if c = p.2 then some out else none)
              rw [if_neg ht, h] at this
              simp only [if_true] at this
              by_cases e : H' = p.2
              · exact e.symm
              · rw [if_neg e] at this; cases this
            rw [hp]
            refine ⟨h3, fun q hq hlt => h2 q hlt fun hm => ?_⟩
            have := List.all_eq_true.1 hk q hm
            simp at this
            exact this hq
    | _ => rw [hf] at hsp; have := hsp (fun _ _ _ => some out); cases this
  · have h1 : ∀ (K : Kont I R), evAny P T env tk fr H op K = evOp P T tk fr H op K := by
      intro K
      unfold evAny
      split
      · rename_i f args ts; exact absurd ⟨f, args, ts, rfl⟩ hop
      · rfl
    cases hv : evOp P T tk fr H op K3 with
    | none =>
      have := hsp (fun _ _ _ => some out)
      rw [h1, evOp_one, hv] at this; cases this
    | some r =>
      obtain ⟨x, f, H'⟩ := r
      have hp : p.2 = H' := by
        classical
        have := hsp (fun _ _ c => if c = p.2 then some out else none)
        rw [h1, evOp_one, hv] at this
        simp only [Option.bind_some, if_true] at this
        by_cases e : H' = p.2
        · exact e.symm
        · rw [if_neg e] at this; cases this
      rw [hp]
      exact evOp_kept hk hv

theorem stepT_kept {env : Env I R} (out : R) (hd : EnvDet env) {rid : Nat} {ops : Array Oper} {L : List Nat} {j : Nat} {o : Oper} (hj : ops[j]? = some o) {fr : Fr I} {H : Hp I} {p : Fr I × Hp I} (hs : stepT P T env rid ops j fr H = some p)
    (hk : wantT ops o fr = some true → keepsX T env L (env.tk.contains (rid, j)) fr o.op = true) : Kept L H p.2 := by
  unfold stepT at hs
  rw [hj] at hs
  simp only at hs
  cases hw : wantT ops o fr with
  | none => rw [hw] at hs; cases hs
  | some b =>
    rw [hw] at hs
    cases b with
    | false => cases hs; exact Kept.refl ..
    | true =>
      simp only at hs
      obtain ⟨q, hq, rfl⟩ := Option.map_eq_some_iff.1 hs
      exact leaf_kept out hd (hk hw) hq
end
end Go.Proofs.YtgefikclhfjcgaaDoorEv

namespace Go.Proofs.YtgefikclhfjcgaaDoorEv
open Go Go.RowKit
set_option linter.unusedVariables false
set_option linter.unusedSectionVars false
set_option linter.unusedSimpArgs false

section
variable {I : Nat → Type} (P : Program) (T : Ty I) {R : Type}

/-- Whether an operation, as it stands, writes none of the variables of L. -/
def keepsAt (env : Env I R) (rid : Nat) (ops : Array Oper) (L : List Nat) (j : Nat) (fr : Fr I) : Bool :=
  match ops[j]? with
  | none => false
  | some o => match wantT ops o fr with | some true => keepsX T env L (env.tk.contains (rid, j)) fr o.op | _ => true
noncomputable def stepK (env : Env I R) (rid : Nat) (ops : Array Oper) (L : List Nat) (j : Nat) (fr : Fr I) (H : Hp I) : Option (Fr I × Hp I) :=
  if keepsAt T env rid ops L j fr = true then stepT P T env rid ops j fr H else none
noncomputable def runK (env : Env I R) (rid : Nat) (ops : Array Oper) (Kp : List (Nat × Nat)) : List Nat → Array Bool → Fr I → Hp I → Option (Fr I × Hp I)
  | [], _, fr, H => some (fr, H)
  | j :: js, listed, fr, H => (stepK P T env rid ops (keptL Kp listed) j fr H).bind fun p => runK env rid ops Kp js (listed.setIfInBounds j true) p.1 p.2
end

section
variable {I : Nat → Type} {P : Program} {T : Ty I} {R : Type}

theorem keepsX_of {env : Env I R} {L : List Nat} {tk : Bool} {fr fr' : Fr I} {op : Op} (h : ∀ z ∈ op.operands, ev T fr' z = ev T fr z) : keepsX T env L tk fr' op = keepsX T env L tk fr op := by
  cases op <;> simp only [keepsX]
  case load t a => rw [h a (by simp [Op.operands])]
  case store t a v => rw [h a (by simp [Op.operands])]
  case mapUpdate t m x v => rw [h m (by simp [Op.operands])]
  case call c =>
    obtain ⟨cal, args, ts⟩ := c
    cases cal with
    | value f =>
      simp only
      have ha : ∀ own, argsOf T fr' own 0 args.toList = argsOf T fr own 0 args.toList := fun own => argsOf_congr own _ 0 fun z hz => h z (by simp [Op.operands, Call.operands]; exact .inr (by simpa using hz))
      rw [h f (by simp [Op.operands, Call.operands])]
      simp only [ha]
    | builtin b =>
      have key : ∀ m ms, args.toList = m :: ms → ev T fr' m = ev T fr m := fun m ms e => by
        have hm : m ∈ args.toList := by rw [e]; simp
        exact h m (by simp [Op.operands, Call.operands]; simpa using hm)
      cases b <;> first | rfl | (simp only; cases e : args.toList with | nil => rfl | cons m ms => simp only [key m ms e])
    | invoke r m => rfl

theorem keepsAt_of {env : Env I R} {rid : Nat} {ops : Array Oper} {L : List Nat} {j : Nat} {o : Oper} (hj : ops[j]? = some o) {fr fr' : Fr I} (h : ∀ t ∈ o.looksAt ops, fr'.get t = fr.get t) : keepsAt T env rid ops L j fr' = keepsAt T env rid ops L j fr := by
  unfold keepsAt
  rw [hj]
  simp only [wantT_of h]
  rw [keepsX_of (fun z hz => ev_of fun t e => h t (looks_op hz e))]

theorem runK_T {env : Env I R} {rid : Nat} {ops : Array Oper} {Kp : List (Nat × Nat)} : ∀ (js : List Nat) (listed : Array Bool) (fr : Fr I) (H : Hp I) p, runK P T env rid ops Kp js listed fr H = some p → runT P T env rid ops js fr H = some p
  | [], _, _, _, _, h => h
  | j :: js, listed, fr, H, p, h => by
    simp only [runK, runT] at h ⊢
    unfold stepK at h
    split at h
    · cases hs : stepT P T env rid ops j fr H with
      | none => rw [hs] at h; cases h
      | some q => rw [hs] at h; exact runK_T js _ q.1 q.2 p h
    · cases h

theorem keepsX_mono {env : Env I R} {L L' : List Nat} {tk : Bool} {fr : Fr I} {op : Op} (h : ∀ q ∈ L', q ∈ L) (hk : keepsX T env L tk fr op = true) : keepsX T env L' tk fr op = true := by
  have c : ∀ o, (!L.contains o) = true → (!L'.contains o) = true := fun o ho => by
    simp at ho ⊢
    exact fun q => ho (h o q)
  have cm : ∀ x : X I, mapKeeps L x = true → mapKeeps L' x = true := fun x hx => by
    cases x <;> first | rfl | skip
    rename_i y
    cases y <;> first | rfl | skip
    rename_i q
    cases q <;> first | rfl | exact c _ hx
  cases op <;> simp only [keepsX] at hk ⊢
  case load t p =>
    cases hp : ev T fr p with
    | y y =>
      cases y with
      | one q =>
        cases q <;> first | rfl | skip
        rw [hp] at hk
        simp only [Bool.or_eq_true] at hk ⊢
        exact hk.imp id (c _)
      | agg cs => rfl
    | _ => rfl
  case store t p v =>
    cases hp : ev T fr p with
    | y y =>
      cases y with
      | one q =>
        cases q <;> first | rfl | skip
        rw [hp] at hk
        exact c _ hk
      | agg cs => rfl
    | rp o e i off => rw [hp] at hk; exact c _ hk
    | _ => rfl
  case mapUpdate t m x v => exact cm _ hk
  case call cl =>
    obtain ⟨cal, args, ts⟩ := cl
    cases cal with
    | value f =>
      simp only at hk ⊢
      cases hf : ev T fr f with
      | fn g caps =>
        rw [hf] at hk
        simp only at hk ⊢
        cases he : env.fn g with
        | none => rfl
        | some e =>
          rw [he] at hk
          simp only at hk ⊢
          rw [List.all_eq_true] at hk ⊢
          exact fun q hq => c q (hk q hq)
      | _ => rfl
    | builtin b =>
      cases b <;> first | rfl | skip
      all_goals
        simp only at hk ⊢
        cases hx : args.toList with
        | nil => rfl
        | cons m ms => rw [hx] at hk; exact cm _ hk
    | invoke r m => rfl

theorem keepsAt_mono {env : Env I R} {rid : Nat} {ops : Array Oper} {L L' : List Nat} {j : Nat} {fr : Fr I} (h : ∀ q ∈ L', q ∈ L) (hk : keepsAt T env rid ops L j fr = true) : keepsAt T env rid ops L' j fr = true := by
  unfold keepsAt at hk ⊢
  cases ho : ops[j]? with
  | none => rw [ho] at hk; cases hk
  | some o =>
    rw [ho] at hk
    simp only at hk ⊢
    cases hw : wantT ops o fr with
    | none => rfl
    | some b =>
      rw [hw] at hk
      cases b with
      | false => rfl
      | true => exact keepsX_mono h hk

theorem keptL_set {Kp : List (Nat × Nat)} {listed : Array Bool} {j : Nat} : ∀ q ∈ keptL Kp (listed.setIfInBounds j true), q ∈ keptL Kp listed := by
  intro q hq
  unfold keptL at hq ⊢
  obtain ⟨p, hp, rfl⟩ := List.mem_map.1 hq
  obtain ⟨h1, h2⟩ := List.mem_filter.1 hp
  refine List.mem_map.2 ⟨p, List.mem_filter.2 ⟨h1, ?_⟩, rfl⟩
  by_cases e : j = p.2
  · subst e
    rcases Nat.lt_or_ge p.2 listed.size with h | h
    · simp [h] at h2
    · simp [Array.getD_eq_getD_getElem?, Array.getElem?_eq_none h]
  · rw [getD_set_ne false e] at h2; exact h2
theorem keptL_other {Kp : List (Nat × Nat)} {listed : Array Bool} {i : Nat} (h : ∀ p ∈ Kp, p.2 ≠ i) : keptL Kp (listed.setIfInBounds i true) = keptL Kp listed := by
  unfold keptL
  congr 1
  apply List.filter_congr
  intro p hp
  rw [getD_set_ne false (Ne.symm (h p hp))]

/-- An operation that is free of all of 'pre' may come behind them. -/
theorem bubble {env : Env I R} (out : R) (hd : EnvDet env) {rid : Nat} {ops : Array Oper} {Kp : List (Nat × Nat)} {i : Nat} {o : Oper} (hi : ops[i]? = some o) {L : List Nat} {x : X I} {post : List Nat} {p : Fr I × Hp I} (hni : ∀ p ∈ Kp, p.2 ≠ i) :
    ∀ (pre : List Nat) (listed : Array Bool) (fr : Fr I) (H : Hp I), (∀ q ∈ L, q < H.length) → (∀ q ∈ L, ∃ r, (q, r) ∈ Kp ∧ listed.getD r false = false ∧ r ∉ pre) → PureAt P T env rid ops L i o fr H x →
      (∀ j ∈ pre, j ≠ i ∧ ∃ oj, ops[j]? = some oj ∧ o.apart ops oj = true ∧ ∀ t ∈ takesOf (env.tk.contains (rid, j)) oj.op, t ∉ o.looksAt ops) →
      keepsAt T env rid ops (keptL Kp listed) i fr = true → runK P T env rid ops Kp (i :: (pre ++ post)) listed fr H = some p → runK P T env rid ops Kp (pre ++ i :: post) listed fr H = some p
  | [], listed, fr, H, _, _, _, _, _, h => h
  | j :: pre, listed, fr, H, hL, hr, hp, hpre, hka, h => by
    obtain ⟨hji, oj, hj, hap, htk⟩ := hpre j (by simp)
    obtain ⟨a1, a2, a3⟩ := Oper.apart_spec hap
    have hself : stepT P T env rid ops i fr H = some (putD fr o.dst x, H) := hp fr H (fun _ _ => rfl) (fun _ _ => rfl)
    simp only [List.cons_append, runK] at h ⊢
    unfold stepK at h
    rw [if_pos hka, hself] at h
    simp only [Option.bind_some] at h
    rw [keptL_other hni] at h
    have hkj : keepsAt T env rid ops (keptL Kp listed) j (putD fr o.dst x) = keepsAt T env rid ops (keptL Kp listed) j fr := keepsAt_of hj fun t ht => by
      cases hdst : o.dst with
      | none => rfl
      | some s => simp only [putD, get_put]; rw [if_neg]; rintro ⟨rfl, _⟩; exact a1 t hdst ht
    rw [hkj] at h
    split at h
    · rename_i hk
      rw [stepT_put out hd hj (fun s e => a1 s e) (fun s e => a2 s e)] at h
      cases hs : stepT P T env rid ops j fr H with
      | none => rw [hs] at h; cases h
      | some q =>
        rw [hs] at h
        simp only [Option.map_some, Option.bind_some] at h
        have hst : stepK P T env rid ops (keptL Kp listed) j fr H = some q := by unfold stepK; rw [if_pos hk, hs]
        rw [hst]
        simp only [Option.bind_some]
        have hLk : ∀ z ∈ L, z ∈ keptL Kp listed := fun z hz => by
          obtain ⟨r, h1, h2, _⟩ := hr z hz
          exact List.mem_map.2 ⟨(z, r), List.mem_filter.2 ⟨h1, by simp only [h2]; rfl⟩, rfl⟩
        have hkept : Kept (keptL Kp listed) H q.2 := stepT_kept out hd hj hs fun hw => by unfold keepsAt at hk; rw [hj] at hk; simp only [hw] at hk; exact hk
        have hlook : ∀ t ∈ o.looksAt ops, q.1.get t = fr.get t := fun t ht => stepT_get hj hs (fun hm => htk t hm ht) (fun e => a3 t e ht)
        have hp' := hp.mono hlook (fun z hz => hkept.2 z (hLk z hz) (hL z hz))
        have hka' : keepsAt T env rid ops (keptL Kp (listed.setIfInBounds j true)) i q.1 = true := by rw [keepsAt_of hi hlook]; exact keepsAt_mono keptL_set hka
        have hself' : stepT P T env rid ops i q.1 q.2 = some (putD q.1 o.dst x, q.2) := hp' q.1 q.2 (fun _ _ => rfl) (fun _ _ => rfl)
        refine bubble out hd hi hni pre _ q.1 q.2 (fun z hz => Nat.lt_of_lt_of_le (hL z hz) hkept.1) (fun z hz => ?_) hp' (fun k hk => hpre k (by simp [hk])) hka' ?_
        · obtain ⟨r, h1, h2, h3⟩ := hr z hz
          simp only [List.mem_cons, not_or] at h3
          exact ⟨r, h1, by rw [getD_set_ne false (Ne.symm h3.1)]; exact h2, h3.2⟩
        · simp only [runK]
          unfold stepK
          rw [if_pos hka', hself']
          simp only [Option.bind_some]
          rw [Array.setIfInBounds_comm _ _ hji]
          exact h
    · cases h
end
end Go.Proofs.YtgefikclhfjcgaaDoorEv

namespace Go.Proofs.YtgefikclhfjcgaaDoorEv
open Go Go.RowKit
set_option linter.unusedVariables false
set_option linter.unusedSectionVars false
set_option linter.unusedSimpArgs false

def Linear (ops : Array Oper) : List Nat → Array Bool → Prop
  | [], listed => Region.ready .any ops listed = []
  | j :: js, listed => j ∈ Region.ready .any ops listed ∧ Linear ops js (listed.setIfInBounds j true)

theorem not_waits {ops : Array Oper} {listed : Array Bool} {i j : Nat} (hi : i ∈ Region.ready .any ops listed) (hj : j ∈ Region.ready .any ops listed) :
    ∃ oj, ops[j]? = some oj ∧ ∀ e ∈ oj.after, Region.binds .any e = true → e.on ≠ i := by
  obtain ⟨_, oj, hoj, hall⟩ := mem_ready.1 hj
  refine ⟨oj, hoj, fun e he hb heq => ?_⟩
  have h1 := hall e he hb
  have h0 := (mem_ready.1 hi).1
  rw [heq] at h1
  rcases Nat.lt_or_ge i listed.size with h' | h'
  · simp [h'] at h0 h1; rw [h0] at h1; cases h1
  · simp [Array.getElem?_eq_none h'] at h1

theorem linear_take {ops : Array Oper} {i : Nat} : ∀ (js : List Nat) (listed : Array Bool), Linear ops js listed → i ∈ Region.ready .any ops listed →
    ∃ pre post, js = pre ++ i :: post ∧ (∀ j ∈ pre, j ≠ i ∧ listed.getD j true = false ∧ ∃ oj, ops[j]? = some oj ∧ ∀ e ∈ oj.after, Region.binds .any e = true → e.on ≠ i) ∧ Linear ops (pre ++ post) (listed.setIfInBounds i true)
  | [], listed, h, hi => by
    have h : Region.ready .any ops listed = [] := h
    rw [h] at hi; cases hi
  | j :: js, listed, h, hi => by
    obtain ⟨hj, hl⟩ := h
    by_cases e : j = i
    · subst e
      exact ⟨[], js, rfl, fun j hj => (by cases hj), hl⟩
    · obtain ⟨pre, post, h1, h2, h3⟩ := linear_take js _ hl (ready_mono hi (Ne.symm e))
      refine ⟨j :: pre, post, by rw [h1]; rfl, fun k hk => ?_, ?_⟩
      · rcases List.mem_cons.1 hk with rfl | hk
        · exact ⟨e, (mem_ready.1 hj).1, not_waits hi hj⟩
        · obtain ⟨p1, p2, p3⟩ := h2 k hk
          refine ⟨p1, ?_, p3⟩
          by_cases ek : j = k
          · subst ek; exact (mem_ready.1 hj).1
          · rw [getD_set_ne true ek] at p2; exact p2
      · refine ⟨ready_mono hj e, ?_⟩
        rw [Array.setIfInBounds_comm _ _ (Ne.symm e)]
        exact h3

/-- What comes up ahead of an operation does not wait for it. -/
theorem linear_behind {ops : Array Oper} {i : Nat} : ∀ (pre post : List Nat) (listed : Array Bool), Linear ops (pre ++ i :: post) listed → listed.getD i true = false → ∀ f, ∀ j, (j ∈ pre ∨ listed.getD j false = true) → j ≠ i →
    (∀ k, (k ∈ pre ∨ listed.getD k false = true) → k ≠ i → behindL ops listed i f k = false ∨ listed.getD k false = true) := by
  intro pre post listed hl hi f j hj hji
  have key : ∀ (done rest : List Nat) (cur : Array Bool), Linear ops (rest ++ i :: post) cur → cur.getD i true = false → (∀ k, cur.getD k false = true → k ∈ done ∨ listed.getD k false = true) → i ∉ done →
      (∀ k, cur.getD k true = false → listed.getD k true = false) → ∀ k ∈ rest, k ≠ i → ∃ ok, ops[k]? = some ok ∧ ∀ e ∈ ok.after, Region.binds .any e = true → e.on ≠ i ∧ (e.on ∈ done ∨ e.on ∈ rest ∨ listed.getD e.on false = true) := by
    intro done rest
    induction rest generalizing done with
    | nil => intro cur _ _ _ _ _ k hk; cases hk
    | cons r rest ih =>
      intro cur hl hi hc hdn hcl k hk hki
      obtain ⟨hr, hl'⟩ := hl
      by_cases hri : r = i
      · subst hri
        -- i comes up here: it stands again behind, which cannot be
        exfalso
        have : ∀ (xs : List Nat) (c : Array Bool), Linear ops (xs ++ r :: post) c → c.getD r true = true → False := by
          intro xs
          induction xs with
          | nil => intro c h hc2; have := (mem_ready.1 h.1).1; rw [hc2] at this; cases this
          | cons y ys ihy =>
            intro c h hc2
            refine ihy _ h.2 ?_
            by_cases e : y = r
            · subst e; have := (mem_ready.1 h.1).1; rw [hc2] at this; cases this
            · rw [getD_set_ne true e]; exact hc2
        refine this rest _ hl' ?_
        rcases Nat.lt_or_ge r cur.size with h | h
        · simp [h]
        · simp [Array.getD_eq_getD_getElem?, Array.getElem?_eq_none, h]
      · obtain ⟨h0, ok, hok, hall⟩ := mem_ready.1 hr
        rcases List.mem_cons.1 hk with rfl | hk
        · refine ⟨ok, hok, fun e he hb => ?_⟩
          have h1 := hall e he hb
          refine ⟨fun q => ?_, ?_⟩
          · rw [q] at h1
            rcases Nat.lt_or_ge i cur.size with h' | h'
            · simp [h'] at hi h1; rw [hi] at h1; cases h1
            · simp [Array.getElem?_eq_none h'] at h1
          · rcases hc _ h1 with q | q
            · exact .inl q
            · exact .inr (.inr q)
        · obtain ⟨ok', h1, h2⟩ := ih (r :: done) (cur.setIfInBounds r true) hl' (by rw [getD_set_ne true hri]; exact hi) (fun k hk2 => by
              by_cases e : r = k
              · exact .inl (by simp [e])
              · rw [getD_set_ne false e] at hk2; rcases hc k hk2 with q | q
                · exact .inl (by simp [q])
                · exact .inr q) (by simp [Ne.symm hri, hdn]) (fun k hk2 => by
              by_cases e : r = k
              · subst e
                rcases Nat.lt_or_ge r cur.size with h | h
                · simp [h] at hk2
                · simp [Array.getD_eq_getD_getElem?, Array.getElem?_eq_none, h] at hk2
              · rw [getD_set_ne true e] at hk2; exact hcl k hk2) k hk hki
          refine ⟨ok', h1, fun e he hb => ?_⟩
          obtain ⟨q1, q2⟩ := h2 e he hb
          refine ⟨q1, ?_⟩
          rcases q2 with q | q | q
          · rcases List.mem_cons.1 q with rfl | q
            · exact .inr (.inl (by simp))
            · exact .inl q
          · exact .inr (.inl (by simp [q]))
          · exact .inr (.inr q)
  have base := key [] pre listed hl hi (fun k hk => .inr hk) (by simp) (fun _ h => h)
  clear hj hji
  intro k hk hki
  by_cases hlk : listed.getD k false = true
  · exact .inr hlk
  · left
    induction f generalizing k with
    | zero => rfl
    | succ f ih =>
      have hk : k ∈ pre := hk.resolve_right hlk
      obtain ⟨ok, h1, h2⟩ := base k hk hki
      unfold behindL
      rw [h1]
      simp only
      rw [Array.any_eq_false']
      intro e he hb
      simp only [Bool.and_eq_true, Bool.or_eq_true, beq_iff_eq, Bool.not_eq_true'] at hb
      obtain ⟨hb1, hb2, hb3⟩ := hb
      obtain ⟨q1, q2⟩ := h2 e he hb1
      rcases hb3 with hb3 | hb3
      · exact q1 hb3
      · have hn : ¬ listed.getD e.on false = true := by rw [hb2]; simp
        rcases q2 with q | q | q
        · cases q
        · rw [ih e.on (.inl q) q1 hn] at hb3; cases hb3
        · exact hn q

/-- What may come up now waits for nothing. -/
theorem ready_behind {ops : Array Oper} {listed : Array Bool} {i j : Nat} (hj : j ∈ Region.ready .any ops listed) : ∀ f, behindL ops listed i f j = false := by
  intro f
  cases f with
  | zero => rfl
  | succ f =>
    obtain ⟨_, oj, hoj, hall⟩ := mem_ready.1 hj
    unfold behindL
    rw [hoj]
    simp only
    rw [Array.any_eq_false']
    intro e he hb
    simp only [Bool.and_eq_true, Bool.not_eq_true'] at hb
    rw [hall e he hb.1] at hb
    cases hb.2.1

section
variable {I : Nat → Type} {P : Program} {T : Ty I} {R : Type}

/-- What a load reads of a variable. -/
def loadVal (P : Program) (tk : Bool) (t : TypeId) (off : Nat) (ob : Option (O I)) : Option (X I × O I) :=
  match cellsOf P t, ob with
  | some n, some (.var cs) =>
    (match part cs off n with
     | some vs => (match mkY P t (if tk then vs else vs.map C.weak) with
       | some v => some (.y v, if tk then .var (cs.take off ++ vs.map C.weak ++ cs.drop (off + n)) else .var cs)
       | none => none)
     | none => none)
  | _, _ => none
theorem loadAt_val {tk : Bool} {fr : Fr I} {H : Hp I} {t : TypeId} {o off : Nat} {K : Kont I R} :
    loadAt P T tk fr H t (.y (.one (.ptr o off))) K = (loadVal P tk t off H[o]?).bind fun r => K r.1 fr (if tk then H.set o r.2 else H) := by
  unfold loadAt loadVal
  cases cellsOf P t with
  | none => rfl
  | some n =>
    simp only
    cases H[o]? with
    | none => rfl
    | some ob =>
      cases ob <;> first | rfl | skip
      rename_i cs
      simp only
      cases part cs off n with
      | none => rfl
      | some vs =>
        simp only
        cases mkY P t (if tk then vs else vs.map C.weak) with
        | none => rfl
        | some v => cases tk <;> rfl

/-- A call and a load that has nothing to do with it: either may come first. -/
theorem swap_call {env : Env I R} (out : R) (hd : EnvDet env) {rid : Nat} {ops : Array Oper} {i j : Nat} {oi oj : Oper} (hi : ops[i]? = some oi) (hj : ops[j]? = some oj) {fr : Fr I} {H : Hp I}
    {f : Operand} {args : Array Operand} {ts : Array TypeId} (hoi : oi.op = .call { callee := .value f, args := args, argTypes := ts }) (hgi : oi.guard = none) {g : Nat} {caps : List (C I)} (hf : ev T fr f = .fn g caps) {e : Ent I} (he : env.fn g = some e)
    {t : TypeId} {p : Operand} (hoj : oj.op = .load t p) (hgj : oj.guard = none) {o off : Nat} (hp : ev T fr p = .y (.one (.ptr o off))) (ho : o ∉ e.ids (argsOf T fr e.own 0 args.toList ++ caps.map fun c => X.c c.weak)) (hoH : o < H.length)
    (hap : oi.apart ops oj = true) (htk : ∀ s ∈ tmpsOf args.toList, s ∉ oj.looksAt ops) {p1 p2 : Fr I × Hp I}
    (h1 : stepT P T env rid ops i fr H = some p1) (h2 : stepT P T env rid ops j p1.1 p1.2 = some p2) : ∃ q, stepT P T env rid ops j fr H = some q ∧ stepT P T env rid ops i q.1 q.2 = some p2 ∧ ∀ s ∈ oi.looksAt ops, q.1.get s = fr.get s := by
  obtain ⟨a1, a2, a3⟩ := Oper.apart_spec hap
  have hwi : wantT ops oi fr = some true := by unfold wantT; rw [hgi]
  have hwj : ∀ fr' : Fr I, wantT ops oj fr' = some true := fun fr' => by unfold wantT; rw [hgj]
  -- the call
  have h1' := h1
  unfold stepT at h1'
  rw [hi] at h1'
  simp only [hwi] at h1'
  obtain ⟨r1, hl1, rfl⟩ := Option.map_eq_some_iff.1 h1'
  have hK1 : ∀ K : Kont I R, evAny P T env (env.tk.contains (rid, i)) fr H oi.op K = K r1.1 (dropAny T env (env.tk.contains (rid, i)) fr oi.op) r1.2 := by
    rcases leaf_of (P := P) (T := T) hd (env.tk.contains (rid, i)) fr H oi.op with ⟨l1, _⟩ | ⟨q, l1, l2⟩
    · rw [l1] at hl1; cases hl1
    · rw [l1] at hl1; cases hl1; exact l2
  obtain ⟨x, H1⟩ := r1
  simp only at h2 hK1 ⊢
  have hcall : (twice (ownTmps e.own 0 args.toList) = true → False) ∧ ∀ K : X I → Hp I → Option R, env.call g (argsOf T fr e.own 0 args.toList ++ caps.map fun c => X.c c.weak) H K = K x H1 := by
    rw [hoi] at hK1
    simp only [evAny, evCall, hf, he] at hK1
    by_cases ht : twice (ownTmps e.own 0 args.toList) = true
    · have := hK1 (fun _ _ _ => some out); rw [if_pos ht] at this; cases this
    · refine ⟨fun q => ht q, fun K => ?_⟩
      have := hK1 (fun x _ H => K x H)
      rw [if_neg ht] at this
      exact this
  have hkeep : ∀ q, q < H.length → q ∉ e.ids (argsOf T fr e.own 0 args.toList ++ caps.map fun c => X.c c.weak) → H1[q]? = H[q]? := by
    rcases hd.det g e (argsOf T fr e.own 0 args.toList ++ caps.map fun c => X.c c.weak) H he with h | ⟨x', H', h, h3, h4⟩
    · have := hcall.2 (fun _ _ => some out); rw [h] at this; cases this
    · have hH' : H' = H1 := by
        classical
        have := hcall.2 (fun _ c => if c = H1 then some out else none)
        rw [h] at this
        simp only [if_true] at this
        by_cases e : H' = H1
        · exact e
        · rw [if_neg e] at this; cases this
      rw [← hH']; exact h3
  -- the load
  have hlook : ∀ s ∈ oj.looksAt ops, (putD (dropAny T env (env.tk.contains (rid, i)) fr oi.op) oi.dst x).get s = fr.get s := fun s hs => by
    refine stepT_get (P := P) (T := T) (H := H) hi h1 (fun hm => htk s ?_ hs) (fun e => a1 s e hs)
    rw [hoi] at hm; exact hm
  have hpj : ev T (putD (dropAny T env (env.tk.contains (rid, i)) fr oi.op) oi.dst x) p = .y (.one (.ptr o off)) := by
    rw [ev_of (fr := fr) (fun s hs => hlook s (looks_op (by rw [hoj]; simp [Op.operands]) hs))]; exact hp
  have hleafJ : ∀ (fr' : Fr I) (H' : Hp I), ev T fr' p = .y (.one (.ptr o off)) → ∀ r, leaf P T env (env.tk.contains (rid, j)) fr' H' oj.op = some r ↔ ∃ d, P.underlying t = some d ∧ ∃ v, loadVal P (env.tk.contains (rid, j)) t off H'[o]? = some v ∧ r = (v.1, if env.tk.contains (rid, j) then H'.set o v.2 else H') := by
    intro fr' H' hp' r
    have hform : ∀ K : Kont I R, evAny P T env (env.tk.contains (rid, j)) fr' H' oj.op K = (match P.underlying t with | some _ => (loadVal P (env.tk.contains (rid, j)) t off H'[o]?).bind fun v => K v.1 fr' (if env.tk.contains (rid, j) then H'.set o v.2 else H') | none => none) := by
      intro K
      rw [hoj]
      simp only [evAny, evOp, hp', loadAt_val]
      cases P.underlying t <;> rfl
    have hdrop : dropAny T env (env.tk.contains (rid, j)) fr' oj.op = fr' := by rw [hoj]; rfl
    constructor
    · intro hr
      rcases leaf_of (P := P) (T := T) hd (env.tk.contains (rid, j)) fr' H' oj.op with ⟨l1, _⟩ | ⟨q, l1, l2⟩
      · rw [l1] at hr; cases hr
      · rw [l1] at hr; cases hr
        cases hu : P.underlying t with
        | none => have := l2 (fun _ _ _ => some out); rw [hform, hu] at this; cases this
        | some d =>
          cases hv : loadVal P (env.tk.contains (rid, j)) t off H'[o]? with
          | none => have := l2 (fun _ _ _ => some out); rw [hform, hu, hv] at this; cases this
          | some v =>
            refine ⟨d, rfl, v, rfl, ?_⟩
            have h3 := leaf_eq (P := P) (T := T) (env := env) out (tk := env.tk.contains (rid, j)) (fr := fr') (H := H') (op := oj.op) (x := v.1) (H' := if env.tk.contains (rid, j) then H'.set o v.2 else H') (fun K => by rw [hform, hu, hv, hdrop]; rfl)
            rw [l1] at h3
            exact Option.some.inj h3
    · rintro ⟨d, hu, v, hv, rfl⟩
      exact leaf_eq out (fun K => by rw [hform, hu, hv, hdrop]; rfl)
  have h2' := h2
  unfold stepT at h2'
  rw [hj] at h2'
  simp only [hwj] at h2'
  obtain ⟨r2, hl2, rfl⟩ := Option.map_eq_some_iff.1 h2'
  obtain ⟨d, hu, v, hv, rfl⟩ := (hleafJ _ _ hpj r2).1 hl2
  have hH1o : H1[o]? = H[o]? := hkeep o hoH ho
  rw [hH1o] at hv
  have hlJ := (hleafJ fr H hp _).2 ⟨d, hu, v, hv, rfl⟩
  have hsJ : stepT P T env rid ops j fr H = some (putD fr oj.dst v.1, if env.tk.contains (rid, j) then H.set o v.2 else H) := by
    unfold stepT
    rw [hj]
    simp only [hwj, hlJ, Option.map_some]
    rw [show dropAny T env (env.tk.contains (rid, j)) fr oj.op = fr by rw [hoj]; rfl]
  -- the call behind it
  have hHlen : H.length = (if env.tk.contains (rid, j) then H.set o v.2 else H).length := by split <;> simp
  obtain ⟨H2', c1, c2, c3, c4⟩ := hd.loc out g e _ H (if env.tk.contains (rid, j) then H.set o v.2 else H) he hHlen (fun q hq => by
    split
    · have hne : o ≠ q := fun e0 => ho (by rw [e0]; exact hq)
      rw [List.getElem?_set_ne hne]
    · rfl) x H1 hcall.2
  have hH2 : H2' = (if env.tk.contains (rid, j) then H1.set o v.2 else H1) := by
    apply List.ext_getElem?
    intro q
    have hlt : H.length ≤ H1.length := by
      rcases hd.det g e (argsOf T fr e.own 0 args.toList ++ caps.map fun c => X.c c.weak) H he with h | ⟨x', H', h, _, h4⟩
      · have := hcall.2 (fun _ _ => some out); rw [h] at this; cases this
      · have hH' : H' = H1 := by
          classical
          have := hcall.2 (fun _ c => if c = H1 then some out else none)
          rw [h] at this
          simp only [if_true] at this
          by_cases e : H' = H1
          · exact e
          · rw [if_neg e] at this; cases this
        rw [← hH']; exact h4
    by_cases hqo : q = o
    · subst hqo
      rw [c4 q hoH ho]
      split
      · rw [List.getElem?_set_self hoH, List.getElem?_set_self (by omega)]
      · exact hH1o.symm
    · have hset : (if env.tk.contains (rid, j) then H1.set o v.2 else H1)[q]? = H1[q]? := by
        split
        · rw [List.getElem?_set_ne (Ne.symm hqo)]
        · rfl
      rw [hset]
      by_cases hq : q ∈ e.ids (argsOf T fr e.own 0 args.toList ++ caps.map fun c => X.c c.weak) ∨ H.length ≤ q
      · exact c3 q hq
      · simp only [not_or, Nat.not_le] at hq
        rw [c4 q hq.2 hq.1, hkeep q hq.2 hq.1]
        split
        · rw [List.getElem?_set_ne (Ne.symm hqo)]
        · rfl
  have hsI : stepT P T env rid ops i fr (if env.tk.contains (rid, j) then H.set o v.2 else H) = some (putD (dropAny T env (env.tk.contains (rid, i)) fr oi.op) oi.dst x, H2') := by
    have hl : leaf P T env (env.tk.contains (rid, i)) fr (if env.tk.contains (rid, j) then H.set o v.2 else H) oi.op = some (x, H2') := leaf_eq out (fun K => by
      rw [hoi]
      simp only [evAny, evCall, hf, he, dropAny]
      rw [if_neg (fun q => hcall.1 q), c1])
    unfold stepT
    rw [hi]
    simp only [hwi, hl, Option.map_some]
  refine ⟨_, hsJ, ?_, fun s hs => ?_⟩
  · rw [stepT_put out hd hi (fun s e q => a3 s e q) (fun s e q => a2 s q e), hsI]
    simp only [Option.map_some]
    rw [hH2, show dropAny T env (env.tk.contains (rid, j)) (putD (dropAny T env (env.tk.contains (rid, i)) fr oi.op) oi.dst x) oj.op = putD (dropAny T env (env.tk.contains (rid, i)) fr oi.op) oi.dst x by rw [hoj]; rfl]
  · cases hdst : oj.dst with
    | none => rfl
    | some s' => simp only [putD, get_put]; rw [if_neg]; rintro ⟨rfl, _⟩; exact a3 s hdst hs

theorem plan_all {env : Env I R} {out : R} (hd : EnvDet env) {rid : Nat} {ops : Array Oper} {Kp : List (Nat × Nat)} {K : Fr I → Hp I → Option R} :
    ∀ (plan : List Nat) (listed : Array Bool) (kn : Kn) (fr : Fr I) (H : Hp I), (∀ p ∈ Kp, p.1 < H.length) → KnT kn fr → evPlan P T env rid ops Kp plan listed kn fr H K = some out →
      ∀ js, Linear ops js listed → ∃ p, runK P T env rid ops Kp js listed fr H = some p ∧ K p.1 p.2 = some out
  | [], listed, kn, fr, H, hL, hk, h, js, hjs => by
    simp only [evPlan] at h
    split at h
    · rename_i he
      have he : Region.ready .any ops listed = [] := by simpa using he
      cases js with
      | nil => exact ⟨(fr, H), rfl, h⟩
      | cons j js => have := hjs.1; rw [he] at this; cases this
    · cases h
  | i :: is, listed, kn, fr, H, hL, hk, h, js, hjs => by
    simp only [evPlan] at h
    cases hi : ops[i]? with
    | none => rw [hi] at h; cases h
    | some o =>
      rw [hi] at h
      simp only at h
      split at h
      · rename_i hc
        obtain ⟨g1, g2, g3⟩ := evGuard_T (R := R) (ops := ops) (o := o) hk
        have key : ∃ p1 kn', stepT P T env rid ops i fr H = some p1 ∧ KnT kn' p1.1 ∧ evPlan P T env rid ops Kp is (listed.setIfInBounds i true) kn' p1.1 p1.2 K = some out ∧
            (Region.ready .any ops listed = [i] ∨ ((∀ p ∈ Kp, p.2 ≠ i) ∧ (callX T env ops listed fr H.length i = true ∨ (freeX env rid ops listed i = true ∧ (wantT ops o fr = some true → pureX T env (pureL Kp ops listed i) (env.tk.contains (rid, i)) fr o.op = true))))) ∧ keepsAt T env rid ops (keptL Kp listed) i fr = true := by
          cases hw : wantT ops o fr with
          | none => rw [g1 hw] at h; cases h
          | some b =>
            cases b with
            | false =>
              obtain ⟨kn1, h1, h2⟩ := g3 hw
              rw [h2] at h
              split at h
              · rename_i hc2
                simp only [Bool.or_eq_true, decide_eq_true_eq, Bool.and_eq_true, Bool.not_eq_true'] at hc2
                refine ⟨(putD fr o.dst (.tup []), H), kn1.drop o.dst, by unfold stepT; rw [hi]; simp only [hw], h1.put (fun _ => rfl), h, ?_, by unfold keepsAt; rw [hi]; simp only [hw]⟩
                rcases hc2 with q | ⟨q1, q2, _⟩
                · exact .inl q
                · refine .inr ⟨fun p hp e => ?_, .inr ⟨q2, fun e => (by cases e)⟩⟩
                  have := List.any_eq_false.1 q1 p hp; simp [e] at this
              · cases h
            | true =>
              obtain ⟨kn1, h1, h2⟩ := g2 hw
              rw [h2] at h
              split at h
              · rename_i hc2
                simp only [Bool.and_eq_true, Bool.or_eq_true, decide_eq_true_eq, Bool.not_eq_true'] at hc2
                rw [evKn_eq h1] at h
                rcases leaf_of (P := P) (T := T) hd (env.tk.contains (rid, i)) fr H o.op with ⟨l1, l2⟩ | ⟨p, l1, l2⟩
                · rw [l2] at h; cases h
                · rw [l2] at h
                  refine ⟨(putD (dropAny T env (env.tk.contains (rid, i)) fr o.op) o.dst p.1, p.2), kn1.drop o.dst, by unfold stepT; rw [hi]; simp only [hw, l1]; rfl, h1.put (fun t => dropAny_bool env _ fr o.op t), h, ?_, by unfold keepsAt; rw [hi]; simp only [hw]; exact hc2.2⟩
                  rcases hc2.1 with q | ⟨q1, q2⟩
                  · exact .inl q
                  · refine .inr ⟨fun p hp e => ?_, ?_⟩
                    · have := List.any_eq_false.1 q1 p hp; simp [e] at this
                    · rcases q2 with q2 | q2
                      · exact .inl q2
                      · exact .inr ⟨q2.1, fun _ => q2.2⟩
              · cases h
        obtain ⟨p1, kn', k1, k2, k3, k4, k5⟩ := key
        have hkept : Kept (keptL Kp listed) H p1.2 := stepT_kept out hd hi k1 fun hw => by unfold keepsAt at k5; rw [hi] at k5; simp only [hw] at k5; exact k5
        have hL' : ∀ p ∈ Kp, p.1 < p1.2.length := fun q hq => Nat.lt_of_lt_of_le (hL q hq) hkept.1
        simp only [Bool.or_eq_true, decide_eq_true_eq, Bool.and_eq_true] at hc
        have hir : i ∈ Region.ready .any ops listed := by
          rcases hc with hc | hc | hc
          · rw [hc]; simp
          · simpa using hc.2
          · unfold callX at hc
            rw [hi] at hc
            simp only [Bool.and_eq_true] at hc
            simpa using hc.2.1
        obtain ⟨pre, post, e1, e2, e3⟩ := linear_take js listed hjs hir
        obtain ⟨p, r1, r2⟩ := plan_all hd is _ kn' p1.1 p1.2 hL' k2 k3 (pre ++ post) e3
        have hrun : runK P T env rid ops Kp (i :: (pre ++ post)) listed fr H = some p := by
          simp only [runK]; unfold stepK; rw [if_pos k5, k1]; exact r1
        refine ⟨p, ?_, r2⟩
        rw [e1]
        have hil : listed.getD i true = false := (mem_ready.1 hir).1
        have hbeh : ∀ j ∈ pre, behindL ops listed i ops.size j = false := fun j hj => by
          rcases linear_behind pre post listed (e1 ▸ hjs) hil ops.size j (.inl hj) (e2 j hj).1 j (.inl hj) (e2 j hj).1 with q | q
          · exact q
          · have h2 := (e2 j hj).2.1
            rcases Nat.lt_or_ge j listed.size with h' | h'
            · simp [h'] at h2 q; rw [h2] at q; cases q
            · simp [Array.getElem?_eq_none h'] at q
        by_cases hone : Region.ready .any ops listed = [i]
        · cases pre with
          | nil => exact hrun
          | cons j pre =>
            exfalso
            rw [e1] at hjs
            have h1 : j ∈ Region.ready .any ops listed := hjs.1
            rw [hone] at h1
            simp at h1
            exact (e2 j (by simp)).1 h1
        · obtain ⟨hni, hcase⟩ := k4.resolve_left hone
          rcases hcase with hcall | ⟨hfree, hpure⟩
          · -- a call, and a load beside it
            cases hpc : pre with
            | nil => rw [hpc] at hrun; exact hrun
            | cons j pre' =>
              unfold callX at hcall
              rw [hi] at hcall
              simp only [Bool.and_eq_true] at hcall
              obtain ⟨hgi, _, hcall⟩ := hcall
              split at hcall
              · rename_i f args ts hop
                split at hcall
                · rename_i g caps hf
                  split at hcall
                  · rename_i en hen
                    obtain ⟨j0, hj0, hcall⟩ := List.any_eq_true.1 hcall
                    simp only [Bool.and_eq_true] at hcall
                    obtain ⟨_, hlf, hall⟩ := hcall
                    have honly : ∀ k ∈ pre, k = j0 := fun k hk => by
                      obtain ⟨q1, q2, ok, q3, _⟩ := e2 k hk
                      have := List.all_eq_true.1 hall k (List.mem_range.2 (Array.getElem?_eq_some_iff.1 q3).1)
                      simp only [Bool.or_eq_true, beq_iff_eq, q1, false_or, q2, hbeh k hk, Bool.false_eq_true, or_false] at this
                      exact this
                    have hjj : j = j0 := honly j (by rw [hpc]; simp)
                    have hpre' : pre' = [] := by
                      cases pre' with
                      | nil => rfl
                      | cons k ks =>
                        exfalso
                        have hk : k = j0 := honly k (by rw [hpc]; simp)
                        rw [e1, hpc] at hjs
                        have h3 := hjs.2.1
                        rw [hk, ← hjj] at h3
                        have h4 := (mem_ready.1 h3).1
                        obtain ⟨_, oj, hoj, _⟩ := mem_ready.1 hjs.1
                        rcases Nat.lt_or_ge j listed.size with h' | h'
                        · simp [h'] at h4
                        · simp [Array.getD_eq_getD_getElem?, Array.getElem?_eq_none, h'] at h4
                    subst hpre'
                    rw [← hjj] at hlf
                    obtain ⟨hji, _, _⟩ := e2 j (by rw [hpc]; simp)
                    unfold loadFree at hlf
                    split at hlf
                    · rename_i oj hoj
                      simp only [Bool.and_eq_true] at hlf
                      obtain ⟨hgj, hap, htk, hlf⟩ := hlf
                      split at hlf
                      · rename_i t pp hopj
                        split at hlf
                        · rename_i ob off hpj
                          simp only [Bool.and_eq_true, Bool.not_eq_true', decide_eq_true_eq] at hlf
                          rw [hpc] at hrun
                          simp only [List.cons_append, List.nil_append, runK] at hrun ⊢
                          unfold stepK at hrun
                          rw [if_pos k5, k1] at hrun
                          simp only [Option.bind_some, keptL_other hni] at hrun
                          have htk' : ∀ s ∈ tmpsOf args.toList, s ∉ oj.looksAt ops := fun s hs hm => by
                            have := List.all_eq_true.1 htk s hs; simp at this; exact this hm
                          split at hrun
                          · rename_i hkj
                            cases hsj : stepT P T env rid ops j p1.1 p1.2 with
                            | none => rw [hsj] at hrun; cases hrun
                            | some p2 =>
                              rw [hsj] at hrun
                              simp only [Option.bind_some] at hrun
                              obtain ⟨q, s1, s2, s3⟩ := swap_call out hd hi hoj hop (by simpa using hgi) hf hen hopj (by simpa using hgj) hpj (by simpa using hlf.1) hlf.2 hap htk' k1 hsj
                              have hlookj : ∀ s ∈ oj.looksAt ops, p1.1.get s = fr.get s := fun s hs => stepT_get hi k1 (fun hm => htk' s (by rw [hop] at hm; exact hm) hs) (fun e => (Oper.apart_spec hap).1 s e hs)
                              have hkj' : keepsAt T env rid ops (keptL Kp listed) j fr = true := by rw [keepsAt_of hoj hlookj] at hkj; exact hkj
                              have hki' : keepsAt T env rid ops (keptL Kp (listed.setIfInBounds j true)) i q.1 = true := by rw [keepsAt_of hi s3]; exact keepsAt_mono keptL_set k5
                              unfold stepK
                              rw [if_pos hkj', s1]
                              simp only [Option.bind_some]
                              rw [if_pos hki', s2]
                              simp only [Option.bind_some]
                              rw [Array.setIfInBounds_comm _ _ hji]
                              exact hrun
                          · cases hrun
                        · cases hlf
                      · cases hlf
                    · cases hlf
                  · cases hcall
                · cases hcall
              · cases hcall
          · obtain ⟨x, hx⟩ := pureAt_of (P := P) (T := T) (L := pureL Kp ops listed i) out hd hi k1 hpure
            refine bubble out hd hi hni pre listed fr H (fun q hq => ?_) (fun q hq => ?_) hx (fun j hj => ?_) k5 hrun
            · obtain ⟨p, hp, rfl⟩ := List.mem_map.1 hq
              exact hL p (List.mem_filter.1 hp).1
            · obtain ⟨p, hp, rfl⟩ := List.mem_map.1 hq
              obtain ⟨m1, m2⟩ := List.mem_filter.1 hp
              simp only [Bool.and_eq_true, Bool.not_eq_true', Bool.or_eq_true, decide_eq_true_eq] at m2
              refine ⟨p.2, m1, m2.1, fun hm => ?_⟩
              rcases m2.2 with q | q
              · obtain ⟨_, _, oj, hoj, _⟩ := e2 p.2 hm
                have := (Array.getElem?_eq_some_iff.1 hoj).1; omega
              · rw [hbeh p.2 hm] at q; cases q
            · obtain ⟨q1, q2, oj, q3, q4⟩ := e2 j hj
              refine ⟨q1, ?_⟩
              unfold freeX at hfree
              rw [hi] at hfree
              simp only [List.all_eq_true, List.mem_range] at hfree
              have h2 := hfree j (Array.getElem?_eq_some_iff.1 q3).1
              simp only [q3, q2, Bool.or_false, Bool.or_eq_true, beq_iff_eq, q1, false_or, Bool.and_eq_true] at h2
              rcases h2 with h2 | h2
              · obtain ⟨e, he, hb⟩ := Array.any_eq_true'.1 h2
                simp only [Bool.and_eq_true, beq_iff_eq] at hb
                exact absurd hb.2 (q4 e he hb.1)
              · refine ⟨oj, q3, h2.1, fun t ht hm => ?_⟩
                have := List.all_eq_true.1 h2.2 t ht
                simp at this
                exact this hm
      · cases h
end
end Go.Proofs.YtgefikclhfjcgaaDoorEv

namespace Go.Proofs.YtgefikclhfjcgaaDoorEv
open Go Go.RowKit
set_option linter.unusedVariables false
set_option linter.unusedSectionVars false
set_option linter.unusedSimpArgs false

/-- How many operations have not come up yet. -/
def unl (ops : Array Oper) (listed : Array Bool) : Nat := ((List.range ops.size).filter fun i => !listed.getD i true).length

theorem unl_set {ops : Array Oper} {listed : Array Bool} {i : Nat} (hi : i ∈ Region.ready .any ops listed) : unl ops (listed.setIfInBounds i true) < unl ops listed := by
  unfold unl
  obtain ⟨h1, oj, h2, _⟩ := mem_ready.1 hi
  have hsz : i < ops.size := (Array.getElem?_eq_some_iff.1 h2).1
  have e : ((List.range ops.size).filter fun j => !(listed.setIfInBounds i true).getD j true) = ((List.range ops.size).filter fun j => !listed.getD j true).filter fun j => !(j == i) := by
    rw [List.filter_filter]
    apply List.filter_congr
    intro j _
    by_cases hj : i = j
    · subst hj
      have : (listed.setIfInBounds i true).getD i true = true := by
        rcases Nat.lt_or_ge i listed.size with q | q
        · simp [q]
        · simp [Array.getD_eq_getD_getElem?, Array.getElem?_eq_none, q]
      rw [this]; simp
    · rw [getD_set_ne true hj]
      have : (j == i) = false := by simpa using fun q => hj q.symm
      rw [this]; simp
  rw [e]
  apply List.length_filter_lt_length_iff_exists.2
  exact ⟨i, List.mem_filter.2 ⟨List.mem_range.2 hsz, by rw [h1]; rfl⟩, by simp⟩

theorem unl_ready {ops : Array Oper} {listed : Array Bool} (h : unl ops listed = 0) : Region.ready .any ops listed = [] := by
  cases hr : Region.ready .any ops listed with
  | nil => rfl
  | cons i is => have := unl_set (ops := ops) (listed := listed) (i := i) (by rw [hr]; simp); omega

theorem linear_sched (ops : Array Oper) : ∀ (fuel t : Nat) (listed : Array Bool), unl ops listed ≤ fuel → Linear ops (Region.linearise.go .any ops fuel t listed []) listed := by
  intro fuel
  induction fuel with
  | zero => intro t listed h; simpa [Region.linearise.go, Linear] using unl_ready (Nat.le_zero.1 h)
  | succ fuel ih =>
    intro t listed h
    simp only [Region.linearise.go]
    change Linear ops (match (Region.ready .any ops listed)[t % (Region.ready .any ops listed).length]? with
      | some i => Region.linearise.go .any ops fuel (t / (Region.ready .any ops listed).length) (listed.setIfInBounds i true) [i]
      | none => [].reverse) listed
    cases hi : (Region.ready .any ops listed)[t % (Region.ready .any ops listed).length]? with
    | none =>
      show Linear ops [].reverse listed
      cases hr : Region.ready .any ops listed with
      | nil => simpa [Linear] using hr
      | cons x xs =>
        rw [hr] at hi
        have hlt : t % (x :: xs).length < (x :: xs).length := Nat.mod_lt _ (by simp)
        simp at hi
        simp at hlt
        omega
    | some i =>
      simp only []
      rw [linearise_go_acc, List.reverse_singleton, List.singleton_append]
      have hm := List.mem_of_getElem? hi
      exact ⟨hm, ih _ _ (by have := unl_set hm; omega)⟩

theorem unl_start (ops : Array Oper) : unl ops (Array.replicate ops.size false) ≤ ops.size := by
  unfold unl
  refine Nat.le_trans (List.length_filter_le _ _) ?_
  simp

section
variable {I : Nat → Type} {P : Program} {T : Ty I} {R : Type}

theorem plan_sched {env : Env I R} {out : R} (hd : EnvDet env) {rid : Nat} {ops : Array Oper} {Kp : List (Nat × Nat)} {K : Fr I → Hp I → Option R} {plan : List Nat} {fr : Fr I} {H : Hp I} (hL : ∀ p ∈ Kp, p.1 < H.length)
    (h : evPlan P T env rid ops Kp plan (Array.replicate ops.size false) [] fr H K = some out) (t : Nat) : evOps P T env rid ops (Region.linearise .any ops t) [] fr H K = some out := by
  obtain ⟨p, h1, h2⟩ := plan_all hd plan _ [] fr H hL (KnT.nil fr) h (Region.linearise .any ops t) (linear_sched ops ops.size t _ (unl_start ops))
  rw [evOps_T hd _ [] fr H (KnT.nil fr), runK_T _ _ fr H p h1]
  exact h2
end
end Go.Proofs.YtgefikclhfjcgaaDoorEv

namespace Go.Proofs.YtgefikclhfjcgaaDoorEv
open Go Go.RowKit
set_option linter.unusedVariables false
set_option linter.unusedSectionVars false
set_option linter.unusedSimpArgs false

section
variable {I : Nat → Type} {P : Program} {T : Ty I} {w w' : World} {E E' : Nat → Nat} {φ φ' : List Nat} {fr fr1 : Fr I} {H H' : Hp I} {R : Type} {out : R} {K : Kont I R} {o : Oper} {tm : Array Value} {D : Nat → Prop}

theorem load_false (hs : Sim T φ E w fr H tm) (hok : TyOK P T) {t : TypeId} {v : Value} {x : X I} (hx : RepX T φ H w E v x) (hu : ∃ d, P.underlying t = some d) (h : loadAt P T false fr H t x K = some out) :
    ∃ u y ad, v = .pointer (some ad) ∧ (loadVar t ad).run P w = .ok u w ∧ RepX T φ H w E u (.y y) ∧ tokX u (.y y) = none ∧ K (.y y) fr H = some out := by
  obtain ⟨d, hu⟩ := hu
  unfold loadAt at h
  split at h
  · rename_i q1 q2 n i off hn
    obtain ⟨b, hb, hv⟩ := rep_ptr hx
    split at h
    · rename_i cs hH
      split at h
      · rename_i vs hvs
        obtain ⟨hle, hvs2, hvj⟩ := part_some hvs
        have hcells := var_cells hs hb hH
        have hex : ∀ j, ∃ u, j < n → w.cell? ⟨b, off + j, none⟩ = some u ∧ ∀ c, vs[j]? = some c → RepT T φ w E u c := by
          intro j
          by_cases hj : j < n
          · obtain ⟨u, h1, h2⟩ := hcells (off + j) cs[off + j] (List.getElem?_eq_getElem (by omega))
            refine ⟨u, fun _ => ⟨h1, fun c hc => ?_⟩⟩
            have := (hvj j c hc).2
            rw [List.getElem?_eq_getElem (by omega)] at this
            cases this; exact h2
          · exact ⟨undef, fun q => absurd q hj⟩
        have hch : ∃ u : Nat → Value, ∀ j, j < n → w.cell? ⟨b, off + j, none⟩ = some (u j) ∧ ∀ c, vs[j]? = some c → RepT T φ w E (u j) c :=
          ⟨fun j => Classical.choose (hex j), fun j hj => Classical.choose_spec (hex j) hj⟩
        obtain ⟨u, hu2⟩ := hch
        have hvl : vs.length = n := by rw [hvs2, List.length_take, List.length_drop]; omega
        split at h
        · rename_i y hy
          · simp only [Bool.false_eq_true, if_false] at h hy
            obtain ⟨k1, _, k3⟩ := mk_of_cells (T := T) (φ := φ) (w := w) (E := E) (u := u) (show (vs.map C.weak).length = n by simp [hvl]) (fun j c hc => by
              simp only [List.getElem?_map, Option.map_eq_some_iff] at hc
              obtain ⟨c0, h0, rfl⟩ := hc
              exact ((hu2 j (by rw [← hvl]; exact (List.getElem?_eq_some_iff.1 h0).1)).2 c0 h0).weak) hy
            exact ⟨_, y, _, hv, loadVar_run hu hn (fun j hj => (hu2 j hj).1) k3, k1, mkY_weak_tok hy, h⟩
        · cases h
      · cases h
    · cases h
  · rename_i q1 q2 n cs off hn
    obtain ⟨b, oo, hv, hj⟩ := hx
    split at h
    · rename_i vs hvs
      obtain ⟨hle, hvs2, hvj⟩ := part_some hvs
      have hvl : vs.length = n := by rw [hvs2, List.length_take, List.length_drop]; omega
      have hex : ∀ j, ∃ u, j < n → w.cell? ⟨b, oo + off + j, none⟩ = some u ∧ ∀ c, vs[j]? = some c → RepC T w E u c := by
        intro j
        by_cases hjn : j < n
        · obtain ⟨h0, u, h1, h2⟩ := hj (off + j) cs[off + j] (List.getElem?_eq_getElem (by omega))
          refine ⟨u, fun _ => ⟨by rw [Nat.add_assoc]; exact h1, fun c hc => ?_⟩⟩
          have := (hvj j c hc).2
          rw [List.getElem?_eq_getElem (by omega)] at this
          cases this; exact h2
        · exact ⟨undef, fun q => absurd q hjn⟩
      have hch : ∃ u : Nat → Value, ∀ j, j < n → w.cell? ⟨b, oo + off + j, none⟩ = some (u j) ∧ ∀ c, vs[j]? = some c → RepC T w E (u j) c :=
        ⟨fun j => Classical.choose (hex j), fun j hj => Classical.choose_spec (hex j) hj⟩
      obtain ⟨u, hu2⟩ := hch
      split at h
      · rename_i y hy
        obtain ⟨k1, k2, k3⟩ := mk_of_cells (T := T) (φ := φ) (w := w) (E := E) (u := u) hvl (fun j c hc => ((hu2 j (by rw [← hvl]; exact (List.getElem?_eq_some_iff.1 hc).1)).2 c hc).toT) hy
        refine ⟨_, y, _, hv, loadVar_run hu hn (fun j hj => (hu2 j hj).1) k3, k1, ?_, h⟩
        cases y with
        | agg cs => rfl
        | one c =>
          obtain ⟨g1, g2⟩ := k2 c rfl
          subst g2
          rw [if_neg (by rw [g1]; simp)]
          exact ((hu2 0 (by rw [← hvl]; simp)).2 c rfl).tok
      · cases h
    · cases h
  · rename_i q1 q2 n i e j off hn
    obtain ⟨b, m, hb, hr, hlt, hv⟩ := hx
    split at h
    · rename_i l hl
      obtain ⟨hr1, hr2⟩ := rowOf_some hl
      rw [hr2] at hr; cases hr
      obtain ⟨arr, ty, a1, a2, a3⟩ := (hs.objs i b _ hb hr1).resolve_left (fun q => by rw [q] at hlt; cases hlt)
      split at h
      · rename_i vs hvs
        obtain ⟨hle, hvs2, hvj⟩ := part_some hvs
        have hvl : vs.length = n := by rw [hvs2, List.length_take, List.length_drop]; omega
        have hgx : l[j]? = some (l.getD j (T.dft e)) := by rw [List.getD_eq_getElem?_getD, List.getElem?_eq_getElem hlt]; rfl
        have hex : ∀ k, ∃ u, k < n → w.cell? ⟨b, j * T.sz e + off + k, none⟩ = some u ∧ ∀ c, vs[k]? = some c → RepC T w E u c := by
          intro k
          by_cases hkn : k < n
          · have hok2 : off + k < (T.cells e (l.getD j (T.dft e))).length := by omega
            obtain ⟨u, h1, h2⟩ := a3 j _ hgx (off + k) _ (List.getElem?_eq_getElem hok2)
            refine ⟨u, fun _ => ⟨by rw [Nat.add_assoc]; simp [World.cell?, a1, h1], fun c hc => ?_⟩⟩
            have := (hvj k c hc).2
            rw [List.getElem?_eq_getElem hok2] at this
            cases this; exact h2
          · exact ⟨undef, fun q => absurd q hkn⟩
        have hch : ∃ u : Nat → Value, ∀ k, k < n → w.cell? ⟨b, j * T.sz e + off + k, none⟩ = some (u k) ∧ ∀ c, vs[k]? = some c → RepC T w E (u k) c :=
          ⟨fun k => Classical.choose (hex k), fun k hk => Classical.choose_spec (hex k) hk⟩
        obtain ⟨u, hu2⟩ := hch
        split at h
        · rename_i y hy
          obtain ⟨k1, k2, k3⟩ := mk_of_cells (T := T) (φ := φ) (w := w) (E := E) (u := u) hvl (fun j c hc => ((hu2 j (by rw [← hvl]; exact (List.getElem?_eq_some_iff.1 hc).1)).2 c hc).toT) hy
          refine ⟨_, y, _, hv, loadVar_run hu hn (fun j hj => (hu2 j hj).1) k3, k1, ?_, h⟩
          cases y with
          | agg cs => rfl
          | one c =>
            obtain ⟨g1, g2⟩ := k2 c rfl
            subst g2
            rw [if_neg (by rw [g1]; simp)]
            exact ((hu2 0 (by rw [← hvl]; simp)).2 c rfl).tok
        · cases h
      · cases h
    · cases h
  · cases h

end
end Go.Proofs.YtgefikclhfjcgaaDoorEv

namespace Go.Proofs.YtgefikclhfjcgaaDoorEv
open Go
set_option linter.unusedVariables false
set_option linter.unusedSectionVars false
set_option linter.unusedSimpArgs false
section
variable {I : Nat → Type} {T : Ty I} {φ : List Nat} {E : Nat → Nat} {w : World} {fr : Fr I} {H : Hp I} {tm : Array Value}
theorem but_some {o o1 o2 : Nat} (h : but o o1 = some o2) : o1 ≠ o ∧ o2 = o1 := by
  unfold but at h
  split at h
  · cases h
  · rename_i q; cases h; exact ⟨q, rfl⟩
theorem but_ne {o o1 : Nat} (h : o1 ≠ o) : but o o1 = some o1 := by unfold but; rw [if_neg h]
theorem resetF_get (o : Nat) (fr : Fr I) (s : Nat) : Fr.get (resetF o fr) s = renX (but o) (Fr.get fr s) := by
  simp only [Fr.get, resetF, List.getD_eq_getElem?_getD, List.getElem?_map]
  cases fr[s]? <;> rfl
theorem resetH_ne {o o' : Nat} (ob : O I) (H : Hp I) (h : o' ≠ o) : (resetH o ob H)[o']? = (H[o']?).map (renO (but o)) := by
  unfold resetH
  rw [List.getElem?_set_ne (fun q => h q.symm), List.getElem?_map]
theorem resetH_here {o : Nat} (ob : O I) {H : Hp I} (h : o < H.length) : (resetH o ob H)[o]? = some ob := by
  unfold resetH
  rw [List.getElem?_set_self (by simpa using h)]
theorem live_reset {o o' : Nat} {ob : O I} (h : o' ≠ o) (hl : live (resetH o ob H) o') : live H o' := by
  unfold live at hl ⊢
  rw [resetH_ne ob H h] at hl
  refine ⟨fun q => hl.1 (by rw [q]; rfl), fun e q => hl.2 e (by rw [q]; rfl)⟩
theorem live_here {o : Nat} {ob : O I} (ho : o < H.length) (hl : live (resetH o ob H) o) : live [ob] 0 := by
  unfold live at hl ⊢
  rw [resetH_here ob ho] at hl
  exact hl
theorem not_live_gone : ¬ live ([.gone] : Hp I) 0 := fun h => h.1 rfl
theorem not_live_nil (e : Nat) : ¬ live ([.row e []] : Hp I) 0 := fun h => h.2 e rfl

/-- A variable set anew; what looked at it is let go. -/
theorem Sim.reset (h : Sim T φ E w fr H tm) {o b : Nat} (ho : o < H.length) (ob : O I) (hv : ∀ cs, ob ≠ .var cs) (hob : RepO T (φ.set o b) w E b ob) (hb : b < w.heap.size)
    (hl : live [ob] 0 → E b = 0 ∧ (∀ i, tokOf φ H w fr tm i ≠ some b) ∧ ∀ o' : Nat, o' ≠ o → live H o' → φ[o']? ≠ some b) :
    Sim T (φ.set o b) E w (resetF o fr) (resetH o ob H) tm ∧ (∀ i k, tokOf (φ.set o b) (resetH o ob H) w (resetF o fr) tm i = some k → tokOf φ H w fr tm i = some k) := by
  have hoφ : o < φ.length := by rw [h.len]; exact ho
  have hm : ∀ o1 o2 b1, but o o1 = some o2 → φ[o1]? = some b1 → (φ.set o b)[o2]? = some b1 := fun o1 o2 b1 q1 q2 => by
    obtain ⟨q3, rfl⟩ := but_some q1
    rw [List.getElem?_set_ne (fun q => q3 q.symm)]
    exact q2
  have hr : ∀ o1 o2 r, but o o1 = some o2 → rowAt H o1 = some r → rowAt (resetH o ob H) o2 = some r := fun o1 o2 r q1 q2 => by
    obtain ⟨q3, rfl⟩ := but_some q1
    exact rowAt_ren (resetH_ne ob H q3) q2
  have hset : ∀ (o1 b1 : Nat), (φ.set o b)[o1]? = some b1 → (o1 = o ∧ b1 = b) ∨ (o1 ≠ o ∧ φ[o1]? = some b1) := fun o1 b1 q => by
    by_cases e : o1 = o
    · subst e
      rw [List.getElem?_set_self hoφ] at q
      cases q
      exact .inl ⟨rfl, rfl⟩
    · rw [List.getElem?_set_ne (fun z => e z.symm)] at q
      exact .inr ⟨e, q⟩
  have key : ∀ i k, tokOf (φ.set o b) (resetH o ob H) w (resetF o fr) tm i = some k → tokOf φ H w fr tm i = some k := by
    intro i k hk
    cases i with
    | slot s =>
      simp only [tokOf, resetF_get] at hk ⊢
      exact tokX_ren (but o) _ _ hk
    | cell o' j =>
      have hne : o' ≠ o := fun q => by
        subst q
        obtain ⟨bb, cs, c, u, h1, h2, _⟩ := tok_cell_inv hk
        rw [resetH_here ob ho] at h2
        cases h2
        exact hv cs rfl
      refine tok_ren (m := but o) (fun b' hb' => ?_) (resetH_ne ob H hne) hk
      rcases hset o' b' hb' with ⟨q, _⟩ | ⟨_, q⟩
      · exact absurd q hne
      · exact q
  refine ⟨{ len := by simp [resetH, h.len], objs := ?_, slots := ?_, flen := by simpa [resetF] using h.flen, inj := ?_, zero := ?_, fresh := h.fresh, tinj := fun i j k hi hj => h.tinj i j k (key i k hi) (key j k hj), tobj := ?_, tlt := fun i k hi => h.tlt i k (key i k hi), glob := h.glob }, key⟩
  · intro o' b' ob' h1 h2
    rcases hset o' b' h1 with ⟨rfl, rfl⟩ | ⟨hne, q⟩
    · rw [resetH_here ob ho] at h2
      cases h2
      exact hob
    · rw [resetH_ne ob H hne] at h2
      obtain ⟨x, hx, rfl⟩ := Option.map_eq_some_iff.1 h2
      exact (h.objs o' b' x q hx).ren hm
  · intro s
    rw [resetF_get]
    exact (h.slots s).ren hm hr
  · intro o1 o2 b' h1 h2 l1 l2
    rcases hset o1 b' h1 with ⟨rfl, rfl⟩ | ⟨n1, q1⟩ <;> rcases hset o2 b' h2 with ⟨rfl, e2⟩ | ⟨n2, q2⟩
    · rfl
    · exact absurd q2 ((hl (live_here ho l1)).2.2 o2 n2 (live_reset n2 l2))
    · subst e2; exact absurd q1 ((hl (live_here ho l2)).2.2 o1 n1 (live_reset n1 l1))
    · exact h.inj o1 o2 b' q1 q2 (live_reset n1 l1) (live_reset n2 l2)
  · intro o1 b' h1
    rcases hset o1 b' h1 with ⟨rfl, rfl⟩ | ⟨n1, q1⟩
    · exact ⟨fun l => (hl (live_here ho l)).1, hb⟩
    · exact ⟨fun l => (h.zero o1 b' q1).1 (live_reset n1 l), (h.zero o1 b' q1).2⟩
  · intro i b' o1 hi l1 h1
    rcases hset o1 b' h1 with ⟨rfl, rfl⟩ | ⟨n1, q1⟩
    · exact (hl (live_here ho l1)).2.1 i (key i _ hi)
    · exact h.tobj i b' o1 (key i b' hi) (live_reset n1 l1) q1

theorem set_self {t : Nat} : tm.setIfInBounds t (tm.getD t undef) = tm := by
  apply Array.ext_getElem?
  intro i
  rw [Array.getElem?_setIfInBounds]
  split
  · rename_i e
    subst e
    split
    · rename_i q
      exact (Array.getElem?_eq_getElem q).symm
    · rename_i q
      rw [Array.getElem?_eq_none (by omega)]
  · rfl
/-- A slot is looked at otherwise. -/
theorem Sim.again (h : Sim T φ E w fr H tm) (t : Nat) (x : X I) (hr : RepX T φ H w E (tm.getD t undef) x)
    (ht : ∀ b, tokX (tm.getD t undef) x = some b → (∀ i, tokOf φ H w fr tm i ≠ some b) ∧ (∀ o : Nat, live H o → φ[o]? ≠ some b) ∧ b < w.heap.size) : Sim T φ E w (fr.put t x) H tm := by
  have := h.put t (tm.getD t undef) x hr ht
  rw [set_self] at this
  exact this
theorem tok_put {t : Nat} {x : X I} {i : Ow} {k : Nat} (h : tokOf φ H w (fr.put t x) tm i = some k) : (i = .slot t ∧ tokX (tm.getD t undef) x = some k) ∨ (i ≠ .slot t ∧ tokOf φ H w fr tm i = some k) ∨ (i = .slot t ∧ tokOf φ H w fr tm i = some k ∧ fr.length ≤ t) := by
  cases i with
  | cell o j => exact .inr (.inl ⟨(fun e => by cases e), h⟩)
  | slot s =>
    simp only [tokOf, get_put] at h
    split at h
    · rename_i q
      obtain ⟨rfl, _⟩ := q
      exact .inl ⟨rfl, h⟩
    · rename_i q
      by_cases e : s = t
      · subst e
        exact .inr (.inr ⟨rfl, h, by
          rcases Nat.lt_or_ge s fr.length with z | z
          · exact absurd ⟨rfl, z⟩ q
          · exact z⟩)
      · exact .inr (.inl ⟨(fun e' => by cases e'; exact e rfl), h⟩)
theorem tok_put' {t : Nat} {x : X I} {i : Ow} {k : Nat} (h : tokOf φ H w (fr.put t x) tm i = some k) : (i = .slot t ∧ tokX (tm.getD t undef) x = some k) ∨ tokOf φ H w fr tm i = some k := by
  rcases tok_put h with q | q | q
  · exact .inl q
  · exact .inr q.2
  · exact .inr q.2.1
/-- A slot let go. -/
theorem Sim.letgo (h : Sim T φ E w fr H tm) (t : Nat) : Sim T φ E w (fr.put t .dead) H tm ∧ (∀ i k, tokOf φ H w (fr.put t .dead) tm i = some k → tokOf φ H w fr tm i = some k) ∧ ∀ k, tokOf φ H w fr tm (.slot t) = some k → ∀ i, tokOf φ H w (fr.put t .dead) tm i ≠ some k := by
  have hs := h.slots' (fr' := fr.put t .dead) (by simp [Fr.put]; exact h.flen) (fun s => by
    rw [get_put]
    split
    · trivial
    · exact h.slots s) (fun s b q => by
    rw [get_put] at q
    split at q
    · cases q
    · exact q)
  refine ⟨hs, fun i k q => (tok_put' q).resolve_left (fun z => by cases z.2), fun k q i z => ?_⟩
  rcases tok_put z with z | z | z
  · cases z.2
  · have := h.tinj i (.slot t) k z.2 q
    exact z.1 this
  · obtain ⟨_, _, z⟩ := z
    simp only [tokOf] at q
    rw [get_ge fr t z] at q
    cases q

/-- What such a step leaves. -/
structure Gh (T : Ty I) (n : Nat) (φ : List Nat) (E : Nat → Nat) (w : World) (fr : Fr I) (H : Hp I) (tm : Array Value) (φ' : List Nat) (E' : Nat → Nat) (fr' : Fr I) (H' : Hp I) : Prop where
  sim : Sim T φ' E' w fr' H' tm
  ch : Ch (Own φ H w fr tm) w E w E'
  own : ∀ b, Own φ' H' w fr' tm b → Own φ H w fr tm b
  pre : ∀ (o b : Nat), o < n → φ[o]? = some b → φ'[o]? = some b
  rows : ∀ o r, o < n → rowAt H o = some r → rowAt H' o = some r

theorem Gh.refl (n : Nat) (h : Sim T φ E w fr H tm) : Gh T n φ E w fr H tm φ E fr H := ⟨h, Ch.refl w E h.fresh _, fun _ q => q, fun _ _ _ q => q, fun _ _ _ q => q⟩
theorem Gh.trans {n : Nat} {φ1 φ2 : List Nat} {E1 E2 : Nat → Nat} {fr1 fr2 : Fr I} {H1 H2 : Hp I} (h : Gh T n φ E w fr H tm φ1 E1 fr1 H1) (k : Gh T n φ1 E1 w fr1 H1 tm φ2 E2 fr2 H2) : Gh T n φ E w fr H tm φ2 E2 fr2 H2 :=
  ⟨k.sim, h.ch.trans k.ch (fun b _ q => h.own b q), fun b q => h.own b (k.own b q), fun o b l q => k.pre o b l (h.pre o b l q), fun o r l q => k.rows o r l (h.rows o r l q)⟩

theorem set_same {o b : Nat} (h : φ[o]? = some b) : φ.set o b = φ := by
  apply List.ext_getElem?
  intro i
  by_cases e : o = i
  · subst e
    rw [List.getElem?_set_self (List.getElem?_eq_some_iff.1 h).1, h]
  · rw [List.getElem?_set_ne e]
theorem rows_reset {n o : Nat} {ob : O I} (hn : n ≤ o) (o' : Nat) (r : Nat × Nat) (h : o' < n) (q : rowAt H o' = some r) : rowAt (resetH o ob H) o' = some r := rowAt_ren (resetH_ne ob H (by omega)) q

theorem cls_gh (hs : Sim T φ E w fr H tm) {n t o e : Nat} {l : List (I e)} (ht : fr.get t = .rs o e) (hH : H[o]? = some (.row e l)) (hn : n ≤ o) :
    Gh T n φ E w fr H tm φ E ((resetF o fr).put t (.c (.own e l))) (resetH o .gone H) := by
  have hol := (List.getElem?_eq_some_iff.1 hH).1
  obtain ⟨b0, hb0⟩ : ∃ b0, φ[o]? = some b0 := ⟨_, List.getElem?_eq_getElem (by rw [hs.len]; exact hol)⟩
  obtain ⟨h1, h2⟩ := hs.reset hol (.gone : O I) (fun cs q => by cases q) trivial (hs.zero o b0 hb0).2 (fun q => absurd q not_live_gone)
  rw [set_same hb0] at h1 h2
  have hx := hs.slots t
  rw [ht] at hx
  obtain ⟨m, hr, hcase⟩ := hx
  have hr' : rowAt H o = some (e, l.length) := by unfold rowAt; rw [hH]
  rw [hr'] at hr
  obtain rfl : m = l.length := by injection hr with hr; injection hr with _ hr; exact hr.symm
  have hrep : RepX T φ (resetH o .gone H) w E (tm.getD t undef) (.c (.own e l)) ∧ ∀ b, tokX (tm.getD t undef) (.c (.own e l) : X I) = some b → live H o ∧ φ[o]? = some b := by
    rcases hcase with ⟨hz, a, hv⟩ | ⟨b, cap, hb, hv, h0, hcap, arr, ty, q1, q2⟩
    · refine ⟨.inl ⟨List.length_eq_zero_iff.1 hz, a, hv⟩, fun b q => ?_⟩
      rw [hv] at q
      cases a <;> cases q
    · have hlv : live H o := live_row hH (fun q => by rw [q] at h0; cases h0)
      obtain ⟨arr', ty', p1, p2, p3⟩ := (hs.objs o b _ hb hH).resolve_left (fun q => by rw [q] at h0; cases h0)
      rw [q1] at p1
      cases p1
      refine ⟨.inr ⟨b, cap, arr, ty, hv, h0, hcap, (hs.zero o b hb).1 hlv, q1, q2, p3⟩, fun b' q => ?_⟩
      have q : tokW (tm.getD t undef) = some b' := q
      rw [hv] at q
      simp only [tokW, if_pos (show 0 < cap by omega)] at q
      cases q
      exact ⟨hlv, hb⟩
  have h3 := h1.again t (.c (.own e l)) hrep.1 (fun b q => by
    obtain ⟨p1, p2⟩ := hrep.2 b q
    refine ⟨fun i z => hs.tobj i b o (h2 i b z) p1 p2, fun o' l' z => ?_, (hs.zero o b p2).2⟩
    by_cases e1 : o' = o
    · subst e1; exact not_live_gone (live_here hol l')
    · exact e1 (hs.inj o' o b z p2 (live_reset e1 l') p1))
  refine ⟨h3, Ch.refl w E hs.fresh _, fun b q => ?_, fun _ _ _ q => q, rows_reset hn⟩
  rcases q with ⟨o', l', q⟩ | ⟨i, q⟩
  · by_cases e1 : o' = o
    · subst e1; exact absurd (live_here hol l') not_live_gone
    · exact .inl ⟨o', live_reset e1 l', q⟩
  · rcases tok_put' q with ⟨_, q⟩ | q
    · exact .inl ⟨o, hrep.2 b q⟩
    · exact .inr ⟨i, h2 i b q⟩

theorem reset_put (o t : Nat) (fr : Fr I) (x : X I) : (resetF o (fr.put t .dead)).put t x = (resetF o fr).put t x := by
  simp only [resetF, Fr.put, List.map_set, List.set_set]
theorem put_put (t : Nat) (fr : Fr I) (x y : X I) : (fr.put t x).put t y = fr.put t y := by simp [Fr.put]

theorem opn_gh (hs : Sim T φ E w fr H tm) {n t o e : Nat} {l : List (I e)} (ht : fr.get t = .c (.own e l)) (hH : H[o]? = some .gone) (hn : n ≤ o) :
    ∃ φ', Gh T n φ E w fr H tm φ' E ((resetF o fr).put t (.rs o e)) (resetH o (.row e l) H) := by
  have hol := (List.getElem?_eq_some_iff.1 hH).1
  obtain ⟨b0, hb0⟩ : ∃ b0, φ[o]? = some b0 := ⟨_, List.getElem?_eq_getElem (by rw [hs.len]; exact hol)⟩
  obtain ⟨g1, g2, g3⟩ := hs.letgo t
  have hx := hs.slots t
  rw [ht] at hx
  have hrow : rowAt (resetH o (.row e l) H) o = some (e, l.length) := by unfold rowAt; rw [resetH_here _ hol]
  rcases hx with ⟨hl0, a, hv⟩ | ⟨b, cap, arr, ty, hv, h0, hcap, hE, hblk, hroom, hc⟩
  · subst hl0
    obtain ⟨h1, h2⟩ := g1.reset hol (.row e [] : O I) (fun cs q => by cases q) (.inl rfl) (hs.zero o b0 hb0).2 (fun q => absurd q (not_live_nil e))
    rw [set_same hb0] at h1 h2
    have h3 := h1.again t (.rs o e) ⟨0, hrow, .inl ⟨rfl, a, hv⟩⟩ (fun b q => by cases q)
    rw [reset_put] at h3
    refine ⟨φ, h3, Ch.refl w E hs.fresh _, fun b q => ?_, fun _ _ _ q => q, rows_reset hn⟩
    rcases q with ⟨o', l', q⟩ | ⟨i, q⟩
    · by_cases e1 : o' = o
      · subst e1; exact absurd (live_here hol l') (not_live_nil e)
      · exact .inl ⟨o', live_reset e1 l', q⟩
    · rw [← reset_put] at q
      rcases tok_put' q with ⟨_, q⟩ | q
      · cases q
      · exact .inr ⟨i, g2 i b (h2 i b q)⟩
  · have hv : tm.getD t undef = .slice (some ⟨b, 0, none⟩) l.length cap := hv
    have htk : tokOf φ H w fr tm (.slot t) = some b := by
      simp only [tokOf, ht, hv]
      show tokW (.slice (some ⟨b, 0, none⟩) l.length cap) = some b
      simp only [tokW]
      rw [if_pos (by omega)]
    obtain ⟨h1, h2⟩ := g1.reset (b := b) hol (.row e l : O I) (fun cs q => by cases q) (.inr ⟨arr, ty, hblk, Nat.le_trans (Nat.mul_le_mul_right _ hcap) hroom, hc⟩) (hs.tlt _ b htk)
      (fun _ => ⟨hE, g3 b htk, fun o' _ l' => hs.tobj _ b o' htk l'⟩)
    have h3 := h1.again t (.rs o e) ⟨l.length, hrow, .inr ⟨b, cap, by rw [List.getElem?_set_self (by rw [hs.len]; exact hol)], hv, h0, hcap, ⟨arr, ty, hblk, hroom⟩⟩⟩ (fun b q => by cases q)
    rw [reset_put] at h3
    refine ⟨_, h3, Ch.refl w E hs.fresh _, fun b' q => ?_, fun o' b' l' q => by rw [List.getElem?_set_ne (by omega)]; exact q, rows_reset hn⟩
    rcases q with ⟨o', l', q⟩ | ⟨i, q⟩
    · by_cases e1 : o' = o
      · subst e1
        rw [List.getElem?_set_self (by rw [hs.len]; exact hol)] at q
        cases q
        exact .inr ⟨_, htk⟩
      · rw [List.getElem?_set_ne (fun z => e1 z.symm)] at q
        exact .inl ⟨o', live_reset e1 l', q⟩
    · rw [← reset_put] at q
      rcases tok_put' q with ⟨_, q⟩ | q
      · cases q
      · exact .inr ⟨i, g2 i b' (h2 i b' q)⟩

def frzE (E : Nat → Nat) (b n : Nat) : Nat → Nat := fun k => if k = b then n else E k

theorem ofr_gh (hT : ∀ e (x : I e), (T.cells e x).length = T.sz e) (hs : Sim T φ E w fr H tm) {n t e : Nat} {l : List (I e)} (ht : fr.get t = .c (.own e l)) :
    ∃ E', Gh T n φ E w fr H tm φ E' (fr.put t (.c (.acc e l))) H := by
  obtain ⟨g1, g2, g3⟩ := hs.letgo t
  have hx := hs.slots t
  rw [ht] at hx
  rcases hx with ⟨hl0, a, hv⟩ | ⟨b, cap, arr, ty, hv, h0, hcap, hE, hblk, hroom, hc⟩
  · subst hl0
    have hv : tm.getD t undef = .slice a 0 0 := hv
    have h3 := g1.again t (.c (.acc e [])) (by
      rw [hv]
      exact ⟨.nilsl e a, by cases a with | none => trivial | some a => exact fun q => absurd q (Nat.lt_irrefl _)⟩) (fun b q => by rw [hv] at q; cases a <;> cases q)
    rw [put_put] at h3
    refine ⟨E, h3, Ch.refl w E hs.fresh _, fun b q => ?_, fun _ _ _ q => q, fun _ _ _ q => q⟩
    rcases q with q | ⟨i, q⟩
    · exact .inl q
    · rcases tok_put' q with ⟨_, q⟩ | q
      · rw [hv] at q; cases a <;> cases q
      · exact .inr ⟨i, q⟩
  · have hv : tm.getD t undef = .slice (some ⟨b, 0, none⟩) l.length cap := hv
    have htk : tokOf φ H w fr tm (.slot t) = some b := by
      simp only [tokOf, ht, hv]
      show tokW (.slice (some ⟨b, 0, none⟩) l.length cap) = some b
      simp only [tokW]
      rw [if_pos (by omega)]
    have hch : Ch (fun k => k = b) w E w (frzE E b (l.length * T.sz e)) := by
      refine ⟨rfl, rfl, rfl, Nat.le_refl _, fun k _ hk => ⟨rfl, if_neg hk⟩, fun k => ?_, fun _ _ _ => rfl, fun k hk => ?_, fun _ _ q => q⟩
      · unfold frzE
        split
        · rename_i q; subst q; omega
        · exact Nat.le_refl _
      · unfold frzE
        rw [if_neg (by have := hs.tlt _ b htk; omega)]
        exact hs.fresh k hk
    have h2 := g1.world hT hch (fun i k q z => by subst z; exact g3 _ htk i q) (fun o' b' l' q z => by subst z; exact hs.tobj _ _ o' htk l' q)
    have h3 := h2.again t (.c (.acc e l)) (by
      rw [hv]
      refine ⟨?_, fun _ => ⟨by show frzE E b _ b = _; unfold frzE; rw [if_pos rfl]; simp, arr, ty, hblk, by simpa using hroom⟩⟩
      refine RepC.sl e l b 0 cap (fun i j => (arr[i * T.sz e + j]?).getD undef) (by unfold frzE; rw [if_pos rfl]; omega) hcap (fun i x hx j c hc' => ?_) (fun i x hx j c hc' => ?_)
      · obtain ⟨u, hu, _⟩ := hc i x hx j c hc'
        rw [hu]
        simp only [World.cell?, hblk, Nat.zero_add, hu, Option.getD_some]
        rfl
      · obtain ⟨u, hu, hr⟩ := hc i x hx j c hc'
        rw [hu]
        exact hr.ch hT hch.ext hch.cells) (fun b' q => by
      have : b' = b := by
        have q : tokV (tm.getD t undef) = some b' := q
        rw [hv] at q
        simp only [tokV] at q
        split at q
        · cases q; rfl
        · cases q
      subst this
      exact ⟨g3 _ htk, fun o' l' => hs.tobj _ _ o' htk l', hs.tlt _ _ htk⟩)
    rw [put_put] at h3
    refine ⟨_, h3, hch.mono (fun k _ q => by subst q; exact .inr ⟨_, htk⟩), fun b' q => ?_, fun _ _ _ q => q, fun _ _ _ q => q⟩
    rcases q with q | ⟨i, q⟩
    · exact .inl q
    · rcases tok_put' q with ⟨_, q⟩ | q
      · have q : tokV (tm.getD t undef) = some b' := q
        rw [hv] at q
        simp only [tokV] at q
        split at q
        · cases q; exact .inr ⟨_, htk⟩
        · cases q
      · exact .inr ⟨i, q⟩

theorem cls1_gh (hs : Sim T φ E w fr H tm) (n t : Nat) : ∃ φ' E', Gh T n φ E w fr H tm φ' E' (cls1 n fr H t).1 (cls1 n fr H t).2 := by
  unfold cls1
  split
  · rename_i o e ht
    split
    · rename_i e' l hH
      split
      · rename_i hc
        obtain ⟨rfl, hn⟩ := hc
        exact ⟨_, _, cls_gh hs ht hH hn⟩
      · exact ⟨_, _, Gh.refl n hs⟩
    · exact ⟨_, _, Gh.refl n hs⟩
  · exact ⟨_, _, Gh.refl n hs⟩
theorem gh1_gh (hT : ∀ e (x : I e), (T.cells e x).length = T.sz e) (hs : Sim T φ E w fr H tm) (n t k : Nat) : ∃ φ' E', Gh T n φ E w fr H tm φ' E' (gh1 n fr H t k).1 (gh1 n fr H t k).2 := by
  unfold gh1
  split
  · obtain ⟨φ1, E1, h1⟩ := cls1_gh hs n t
    simp only
    unfold ofr1
    split
    · rename_i e l ht
      obtain ⟨E2, h2⟩ := ofr_gh (n := n) hT h1.sim ht
      exact ⟨_, _, h1.trans h2⟩
    · exact ⟨_, _, h1⟩
  · exact cls1_gh hs n t
  · rename_i o
    unfold opn1
    split
    · rename_i e l ht
      split
      · rename_i hH
        split
        · rename_i hn
          obtain ⟨φ', h⟩ := opn_gh hs ht hH hn
          exact ⟨_, _, h⟩
        · exact ⟨_, _, Gh.refl n hs⟩
      · exact ⟨_, _, Gh.refl n hs⟩
    · exact ⟨_, _, Gh.refl n hs⟩
theorem frzs_gh (hT : ∀ e (x : I e), (T.cells e x).length = T.sz e) (n : Nat) : ∀ (ts : List (Nat × Nat)) {φ : List Nat} {E : Nat → Nat} {fr : Fr I} {H : Hp I}, Sim T φ E w fr H tm → ∃ φ' E', Gh T n φ E w fr H tm φ' E' (frzs n fr H ts).1 (frzs n fr H ts).2
  | [], φ, E, fr, H, hs => ⟨_, _, Gh.refl n hs⟩
  | p :: ts, φ, E, fr, H, hs => by
    obtain ⟨φ1, E1, h1⟩ := gh1_gh hT hs n p.1 p.2
    obtain ⟨φ2, E2, h2⟩ := frzs_gh hT n ts h1.sim
    exact ⟨_, _, h1.trans h2⟩
theorem frzs_rel (hT : ∀ e (x : I e), (T.cells e x).length = T.sz e) {nh : Nat} {φ0 : List Nat} {E0 : Nat → Nat} {w0 : World} {fr0 : Fr I} {H0 : Hp I} {tm0 : Array Value} (hnh : H0.length ≤ nh) (hnφ : φ0.length ≤ nh)
    (ts : List (Nat × Nat)) (hr : Rel φ0 E0 w0 fr0 H0 tm0 φ E w fr H tm) (hs : Sim T φ E w fr H tm) :
    ∃ φ' E', Sim T φ' E' w (frzs nh fr H ts).1 (frzs nh fr H ts).2 tm ∧ Rel φ0 E0 w0 fr0 H0 tm0 φ' E' w (frzs nh fr H ts).1 (frzs nh fr H ts).2 tm := by
  obtain ⟨φ', E', h⟩ := frzs_gh hT nh ts hs
  refine ⟨φ', E', h.sim, hr.ch.trans h.ch (fun b hb q => (hr.own b q).resolve_right (by omega)), fun b q => hr.own b (h.own b q), fun o b q => ?_, fun o r q => ?_⟩
  · exact h.pre o b (by have := (List.getElem?_eq_some_iff.1 q).1; omega) (hr.pre o b q)
  · refine h.rows o r ?_ (hr.rows o r q)
    unfold rowAt at q
    split at q
    · rename_i z; have := (List.getElem?_eq_some_iff.1 z).1; omega
    · cases q
end
end Go.Proofs.YtgefikclhfjcgaaDoorEv

namespace Go.Proofs.YtgefikclhfjcgaaDoorEv
open Go Go.RowKit
set_option linter.unusedVariables false
set_option linter.unusedSectionVars false
set_option linter.unusedSimpArgs false

section
variable {I : Nat → Type} {P : Program} {T : Ty I} {w w' : World} {E E' : Nat → Nat} {φ φ' : List Nat} {fr fr1 : Fr I} {H H' : Hp I} {R : Type} {out : R} {K : Kont I R} {o : Oper} {tm : Array Value} {D : Nat → Prop}

/-- A result variable's value. -/
def resVal (tm : Array Value) : ResultVar → Sem Value
  | .tmp t => pure (tm.getD t undef)
  | .cell a t => do loadVar t (← asAddr (tm.getD a undef))

theorem retY_ok (hs : Sim T φ E w fr H tm) (hok : TyOK P T) {r : ResultVar} {x : X I} (h : retY P T fr H r = some x) :
    ∃ u, (resVal tm r).run P w = .ok u w ∧ RepX T φ H w E u x ∧ ∀ b, tokX u x = some b → ∃ t, tokOf φ H w fr tm (.slot t) = some b := by
  cases r with
  | tmp t => cases h; exact ⟨_, rfl, hs.slots t, fun b q => ⟨t, q⟩⟩
  | cell a t =>
    simp only [retY] at h
    split at h
    · rename_i d hu
      obtain ⟨u, y, ad, h1, h2, h3, h4, h5⟩ := load_false hs hok (hs.slots a) ⟨d, hu⟩ h
      cases h5
      exact ⟨u, by simp only [resVal, h1, asAddr, Sem.run_bind, Sem.run_pure, Result.andThen_ok, h2], h3, fun b q => by rw [h4] at q; cases q⟩
    · cases h

theorem one_sim (hs : Sim T φ E w fr H tm) {u : Value} {x : X I} (hr : RepX T φ H w E u x) (ht : ∀ b, tokX u x = some b → ∃ t, tokOf φ H w fr tm (.slot t) = some b) :
    Sim T φ E w [x] H #[u] ∧ Rel φ E w fr H tm φ E w [x] H #[u] := by
  have key : ∀ i b, tokOf φ H w [x] #[u] i = some b → (∃ o j, i = .cell o j ∧ tokOf φ H w fr tm i = some b) ∨ (i = .slot 0 ∧ ∃ t, tokOf φ H w fr tm (.slot t) = some b) := by
    intro i b q
    cases i with
    | cell o' j => exact .inl ⟨o', j, rfl, q⟩
    | slot t =>
      cases t with
      | zero => exact .inr ⟨rfl, ht b q⟩
      | succ t => cases q
  refine ⟨{ len := hs.len, objs := hs.objs, slots := ?_, flen := by simp, inj := hs.inj, zero := hs.zero, fresh := hs.fresh, tinj := ?_, tobj := ?_, tlt := ?_, glob := hs.glob }, ⟨Ch.refl w E hs.fresh _, ?_, fun _ _ q => q, fun _ _ q => q⟩⟩
  · intro t
    cases t with
    | zero => exact hr
    | succ t => exact trivial
  · intro i j b hi hj
    rcases key i b hi with ⟨o1, j1, rfl, k1⟩ | ⟨rfl, t1, k1⟩ <;> rcases key j b hj with ⟨o2, j2, rfl, k2⟩ | ⟨rfl, t2, k2⟩
    · exact hs.tinj _ _ b k1 k2
    · have := hs.tinj _ _ b k1 k2; cases this
    · have := hs.tinj _ _ b k1 k2; cases this
    · rfl
  · intro i b o' hi
    rcases key i b hi with ⟨o1, j1, rfl, k1⟩ | ⟨rfl, t1, k1⟩ <;> exact hs.tobj _ b o' k1
  · intro i b hi
    rcases key i b hi with ⟨o1, j1, rfl, k1⟩ | ⟨rfl, t1, k1⟩ <;> exact hs.tlt _ b k1
  · intro b q
    rcases q with q | ⟨i, q⟩
    · exact .inl (.inl q)
    · rcases key i b q with ⟨o1, j1, rfl, k1⟩ | ⟨rfl, t1, k1⟩ <;> exact .inl (.inr ⟨_, k1⟩)

theorem results_eq (fn : Func) (tm : Array Value) (w : World) {us : List Value} (h : (fn.results.toList.mapM (resVal tm)).run P w = .ok us w) :
    (results fn tm).run P w = .ok (if h : us.length = 1 then us[0] else .tuple us.toArray) w := by
  have hf : results fn tm = (fn.results.mapM (resVal tm) >>= fun vs => pure (if h : vs.size = 1 then vs[0] else .tuple vs)) := by
    unfold results
    congr 1
  rw [hf, Array.mapM_eq_mapM_toList]
  simp only [Sem.run_bind, Sem.run_map, h, Result.andThen_ok, Sem.run_pure]
  rfl

theorem rets_ok (hs : Sim T φ E w fr H tm) (hok : TyOK P T) {fn : Func} {x : X I} (h : rets P T fn fr H = some x) :
    ∃ v, (results fn tm).run P w = .ok v w ∧ Sim T φ E w [x] H #[v] ∧ Rel φ E w fr H tm φ E w [x] H #[v] := by
  unfold rets at h
  split at h
  · rename_i r hr
    obtain ⟨u, h1, h2, h3⟩ := retY_ok hs hok h
    obtain ⟨s1, s2⟩ := one_sim hs h2 h3
    refine ⟨u, ?_, s1, s2⟩
    rw [results_eq (us := [u]) fn tm w (by rw [hr, List.mapM_cons, List.mapM_nil]; simp only [Sem.run_bind, h1, Result.andThen_ok, Sem.run_pure])]
    rfl
  · rename_i rs hn
    obtain ⟨ys, hys, rfl⟩ := Option.map_eq_some_iff.1 h
    have key : ∀ (rs : List ResultVar) (ys : List (Y I)), (rs.mapM fun r => (retY P T fr H r).bind (yOfX H)) = some ys →
        ∃ us : List Value, (rs.mapM (resVal tm)).run P w = .ok us w ∧ us.length = rs.length ∧ ys.length = rs.length ∧ ∀ (j : Nat) y, ys[j]? = some y → ∃ u, us[j]? = some u ∧ RepY T φ w E u y.weak := by
      intro rs
      induction rs with
      | nil => intro ys h; simp at h; subst h; exact ⟨[], rfl, rfl, rfl, fun j y q => by simp at q⟩
      | cons r rs ih =>
        intro ys h
        rw [List.mapM_cons] at h
        cases h1 : (retY P T fr H r).bind (yOfX H) with
        | none => simp [h1] at h
        | some y =>
          cases h2 : (rs.mapM fun r => (retY P T fr H r).bind (yOfX H)) with
          | none => simp [h1, h2] at h
          | some ys2 =>
            simp [h1, h2] at h
            subst h
            obtain ⟨us, k1, k2, k3, k4⟩ := ih ys2 h2
            cases h3 : retY P T fr H r with
            | none => simp [h3] at h1
            | some x =>
              simp only [h3, Option.bind_some] at h1
              obtain ⟨u, p1, p2, _⟩ := retY_ok hs hok h3
              refine ⟨u :: us, ?_, by simp [k2], by simp [k3], fun j y' q => ?_⟩
              · rw [List.mapM_cons]; simp only [Sem.run_bind, p1, k1, Result.andThen_ok, Sem.run_pure]
              · cases j with
                | succ j => exact k4 j y' (by simpa using q)
                | zero =>
                  simp at q; subst q
                  refine ⟨u, rfl, ?_⟩
                  cases x <;> simp only [yOfX, reduceCtorEq, Option.some.injEq] at h1
                  subst h1
                  exact (RepY.weak p2).weak
    obtain ⟨us, k1, k2, k3, k4⟩ := key _ ys hys
    have hl : us.length ≠ 1 := by
      rw [k2]
      intro q
      obtain ⟨r, hr⟩ := List.length_eq_one_iff.1 q
      exact hn r hr
    have hv := results_eq (P := P) fn tm w k1
    rw [dif_neg hl] at hv
    have hrep : RepX T φ H w E (.tuple us.toArray) (.tup ys) := ⟨us.toArray, rfl, by simp [k2, k3], fun j y q => by simpa using k4 j y q⟩
    obtain ⟨s1, s2⟩ := one_sim hs hrep (fun b q => by cases q)
    exact ⟨_, hv, s1, s2⟩

theorem exec_ok (hok : TyOK P T) {env : Env I R} (henv : EnvOK P T env) (hdet : EnvDet env) {H0 : Hp I} (hnh : H0.length ≤ env.nh) {f : FuncId} {fn : Func} {root : Code} (hf : P.funcs[f]? = some fn) (hbody : fn.body = some root) (hdr : P.follows .mixedOrders = true)
    {φ0 : List Nat} {E0 : Nat → Nat} {w0 : World} {fr0 : Fr I} {tm0 : Array Value} {Φ : Value → World → Prop} (hnφ : φ0.length ≤ env.nh)
    (hΦ : ∀ φ E w x H v, env.fin x H = some out → Sim T φ E w [x] H #[v] → Rel φ0 E0 w0 fr0 H0 tm0 φ E w [x] H #[v] → Φ v w)
    (hcut : ∀ id g, env.cut id = some g → ∀ fr H, g fr H = some out → ∀ φ E w (a : Act) k, todoAt id root [] [] = some k → Sim T φ E w fr H a.tmps → a.defers = [] → Rel φ0 E0 w0 fr0 H0 tm0 φ E w fr H a.tmps → Good P f (k.map It.item) a w Φ) :
    ∀ (m : Nat) (b : Bool) (todo : List It) (fr : Fr I) (H : Hp I) (φ : List Nat) (E : Nat → Nat) (w : World) (a : Act), exec P T fn env m b todo fr H = some out → Lies root todo → Sim T φ E w fr H a.tmps → a.defers = [] →
      Rel φ0 E0 w0 fr0 H0 tm0 φ E w fr H a.tmps → Good P f (todo.map It.item) a w Φ
  | 0, b, todo, fr, H, φ, E, w, a, h, _, _, _, _ => by cases h
  | m + 1, b, [], fr, H, φ, E, w, a, h, hl, hs, hd, hr => by
    simp only [exec] at h
    split at h
    · rename_i x hx
      obtain ⟨φ1, E1, hs1, hr1⟩ := frzs_rel hok.len hnh hnφ env.frzR hr hs
      obtain ⟨v, h1, h2, h3⟩ := rets_ok hs1 hok hx
      exact Good.ret hf hd h1 (hΦ φ1 E1 w x _ v h h2 (hr1.trans h3)) (fun b cs => step_end)
    · cases h
  | m + 1, b, ⟨tag, p, c⟩ :: k, fr, H, φ, E, w, a, h, hl, hs, hd, hr => by
    have ih := fun b todo h hl => exec_ok hok henv hdet hnh hf hbody hdr hnφ hΦ hcut m b todo fr H φ E w a h hl hs hd hr
    obtain ⟨hc, hk⟩ := lies_cons.1 hl
    simp only at hc
    simp only [exec] at h
    split at h
    · exact (ih b _ h hk).go (fun b cs => step_skip)
    · rename_i q1 q2 x y
      refine (ih b _ h (lies_cons.2 ⟨by simp [sub, hc, child], lies_cons.2 ⟨by simp [sub, hc, child], hk⟩⟩)).go (fun b cs => ?_)
      have e1 : It.item ⟨0, 0 :: p, x⟩ = .code x := by cases x <;> rfl
      have e2 : It.item ⟨0, 1 :: p, y⟩ = .code y := by cases y <;> rfl
      simp only [List.map_cons, e1, e2]
      exact step_seq
    · rename_i q1 q2 x y z
      split at h
      · rename_i q hq
        have hv := boolOf_rep (ev_rep hs a.defers x) hq
        have hv' : a.eval x = .bool q.get := hv
        have e1 : It.item ⟨0, 0 :: p, y⟩ = .code y := by cases y <;> rfl
        have e2 : It.item ⟨0, 1 :: p, z⟩ = .code z := by cases z <;> rfl
        rcases Bo.ite_cases q (exec P T fn env m b (⟨0, 0 :: p, y⟩ :: k) fr H) (exec P T fn env m b (⟨0, 1 :: p, z⟩ :: k) fr H) with ⟨g1, g2⟩ | ⟨g1, g2⟩ <;> rw [g2] at h
        · refine (ih b _ h (lies_cons.2 ⟨by simp [sub, hc, child], hk⟩)).go (fun b cs => ?_)
          have := step_cond (P := P) (b := b) (cs := cs) (w := w) (k := k.map It.item) (x := y) (y := z) hv'
          rw [g1] at this
          simp only [List.map_cons, e1]
          exact this
        · refine (ih b _ h (lies_cons.2 ⟨by simp [sub, hc, child], hk⟩)).go (fun b cs => ?_)
          have := step_cond (P := P) (b := b) (cs := cs) (w := w) (k := k.map It.item) (x := y) (y := z) hv'
          rw [g1] at this
          simp only [List.map_cons, e2]
          exact this
      · cases h
    · rename_i q1 q2 id x
      refine (ih b _ h (lies_cons.2 ⟨by simp [sub, hc, child], lies_cons.2 ⟨hc, hk⟩⟩)).go (fun b cs => ?_)
      have e1 : It.item ⟨0, 0 :: p, x⟩ = .code x := by cases x <;> rfl
      simp only [List.map_cons, e1]
      exact step_block
    · rename_i q1 q2 x
      refine (ih b _ h (lies_cons.2 ⟨by simp [sub, hc, child], lies_cons.2 ⟨hc, hk⟩⟩)).go (fun b cs => ?_)
      have e1 : It.item ⟨0, 0 :: p, x⟩ = .code x := by cases x <;> rfl
      simp only [List.map_cons, e1]
      exact step_loop
    · rename_i q1 q2 x
      refine (ih b _ h (lies_cons.2 ⟨by simp [sub, hc, child], lies_cons.2 ⟨hc, hk⟩⟩)).go (fun b cs => ?_)
      have e1 : It.item ⟨0, 0 :: p, x⟩ = .code x := by cases x <;> rfl
      simp only [List.map_cons, e1]
      exact step_lone_go (by simp [stepG, stepG.exec, Frame.at, It.item])
    · rename_i q1 q2 id
      split at h
      · rename_i k' hk'
        obtain ⟨g1, g2⟩ := exitTo_item _ _ hk'
        refine (ih b _ h (fun x hx => hk x (g2 x hx))).go (fun b cs => ?_)
        exact step_exit g1
      · cases h
    · split at h
      · rename_i x hx
        obtain ⟨φ1, E1, hs1, hr1⟩ := frzs_rel hok.len hnh hnφ env.frzR hr hs
        obtain ⟨v, h1, h2, h3⟩ := rets_ok hs1 hok hx
        exact Good.ret hf hd h1 (hΦ φ1 E1 w x _ v h h2 (hr1.trans h3)) (fun b cs => step_ret)
      · cases h
    · rename_i q1 q2 id ops draw
      split at h
      · rename_i q3 g hg
        split at h
        · rename_i hat
          have hg' : env.cut id = some g := by
            split at hg
            · cases hg
            · exact hg
          unfold atCut at hat
          split at hat
          · rename_i k' hk'
            have hroot : bodyOf fn = root := by simp [bodyOf, hbody]
            rw [hroot] at hk'
            have hl' : Lies root k' := todoAt_lies root [] [] k' rfl (fun x hx => by cases hx) hk'
            rw [sameTodo_eq _ _ hat hl hl']
            obtain ⟨φA, EA, hsA, hrA⟩ := frzs_rel hok.len hnh hnφ (env.frz id) hr hs
            exact hcut id g hg' _ _ h φA EA w a k' hk' hsA hd hrA
          · cases hat
        · cases h
      · obtain ⟨φA, EA, hsA, hrA⟩ := frzs_rel hok.len hnh hnφ (env.frz id) hr hs
        generalize frzs env.nh fr H (env.frz id) = qA at h hsA hrA
        obtain ⟨frA, HA⟩ := qA
        simp only at h hsA hrA
        have next : ∀ (w1 : World), Sim T φA EA w1 frA HA a.tmps → Rel φ0 E0 w0 fr0 H0 tm0 φA EA w1 frA HA a.tmps → ∀ js, evOps P T env id ops js [] frA HA (fun frA HA => exec P T fn env m false k frA HA) = some out →
            wpOps P ops (fun e a w => e = .normal ∧ Good P f (k.map It.item) a w Φ) js a w1 := by
          intro w1 hs1 hr1 js hjs
          exact evOps_ok hok henv js [] φA EA w1 frA HA a (KnC.nil _) hjs hs1 hd (fun φ' E' w' fr' H' a' g1 g2 g3 g4 => ⟨rfl, exec_ok hok henv hdet hnh hf hbody hdr hnφ hΦ hcut m false k fr' H' φ' E' w' a' g1 hk g2 g4 (hr1.trans g3)⟩)
        unfold evRegion at h
        cases draw with
        | false =>
          rw [if_neg (by simp)] at h
          exact Good.region (next w hsA hrA _ h)
        | true =>
          rw [if_pos (by simp)] at h
          split at h
          · rename_i hd1
            have hdw := Ch.drew w EA hsA.fresh (fun _ => False)
            have hs1 := hsA.world hok.len hdw (fun _ _ _ q => q) (fun _ _ _ _ q => q)
            have hr1 : Rel φA EA w frA HA a.tmps φA EA w.drew frA HA a.tmps := ⟨Ch.drew w EA hsA.fresh _, fun b q => by
              refine .inl ?_
              rcases q with q | ⟨i, q⟩
              · exact .inl q
              · refine .inr ⟨i, ?_⟩
                rw [tokOf_world (w := w) (w' := w.drew) hsA (fun _ _ _ _ => rfl) frA i] at q
                exact q, fun _ _ q => q, fun _ _ q => q⟩
            refine Good.draw (fun t => ?_)
            simp only [Region.schedule, hdr, Bool.true_or, if_true]
            exact next w.drew hs1 (hrA.trans hr1) _ (plan_sched hdet (fun p hp => by have := List.all_eq_true.1 hd1 p hp; simpa using this) h t)
          · cases h
    · rename_i q1 q2 x
      refine (ih b _ h (lies_cons.2 ⟨by simp [sub, hc, child], lies_cons.2 ⟨hc, hk⟩⟩)).go (fun b cs => ?_)
      have e1 : It.item ⟨0, 0 :: p, x⟩ = .code x := by cases x <;> rfl
      simp only [List.map_cons, e1]
      exact step_inLoop
    · exact (ih b _ h hk).go (fun b cs => step_inBlock)
    · exact (ih b _ h hk).go (fun b cs => step_lone_go (by simp [stepG, stepG.exec, Frame.at, It.item]))
    · cases h
end
end Go.Proofs.YtgefikclhfjcgaaDoorEv

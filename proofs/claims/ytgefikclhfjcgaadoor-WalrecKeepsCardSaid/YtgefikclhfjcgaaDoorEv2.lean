/- A machine of lists and numbers: what it carries out, the program carries out; no condition but those that each theorem states. -/
import Derived.ChangeArms
import Derived.ChangeOld
import Derived.DataReads
import Derived.DataElems
import Derived.WideShapes
import Derived.SizedLaws
import Derived.OpenShut
import Derived.Test.YtgefikclhfjcgaaDoorEv1
namespace Go.Proofs.YtgefikclhfjcgaaDoorEv
open Go Go.RowKit
set_option linter.unusedVariables false
set_option linter.unusedSectionVars false
set_option linter.unusedSimpArgs false

inductive Sh : Type
  | int (k : IntKind)
  | bool
  | str
  | sl (e : Nat)
  | acc (e : Nat)
  | own (e : Nat)
  | ptr (o off : Nat)
  | nilp
  | map (o : Nat)
inductive SX : Type
  | one (s : Sh)
  | agg (l : List Sh)
  | fn (f : Nat) (caps : List Sh)
  | rs (o e : Nat)
inductive SO : Type
  | var (l : List Sh)
  | row (e : Nat)
  | map (kd : Kd) (k e : Nat)
  | gone
inductive SR : Type
  | one (s : SX)
  | tup (l : List SX)

section
variable (I : Nat → Type)
def Sh.ty : Sh → Type
  | .int _ => Int
  | .bool => Bool
  | .str => ByteArray
  | .sl e => List (I e)
  | .acc e => List (I e)
  | .own e => List (I e)
  | .ptr _ _ => Unit
  | .nilp => Unit
  | .map _ => Unit
def Shs.ty : List Sh → Type
  | [] => Unit
  | [s] => s.ty I
  | s :: t :: ss => s.ty I × Shs.ty (t :: ss)
def SX.ty : SX → Type
  | .one s => s.ty I
  | .agg l => Shs.ty I l
  | .fn _ l => Shs.ty I l
  | .rs _ _ => Unit
def SXs.ty : List SX → Type
  | [] => Unit
  | [s] => s.ty I
  | s :: t :: ss => s.ty I × SXs.ty (t :: ss)
def SO.ty : SO → Type
  | .var l => Shs.ty I l
  | .row e => List (I e)
  | .map _ k e => List (I k × I e)
  | .gone => Unit
def SOs.ty : List SO → Type
  | [] => Unit
  | [s] => s.ty I
  | s :: t :: ss => s.ty I × SOs.ty (t :: ss)
def SR.ty : SR → Type
  | .one s => s.ty I
  | .tup l => SXs.ty I l
end

section
variable {I : Nat → Type}
def dInt (k : IntKind) : C I → Option Int
  | .int k' n => if k = k' then some n else none
  | _ => none
def dBool : C I → Option Bool
  | .bool b => some b.get
  | _ => none
def dStr : C I → Option ByteArray
  | .str s => some s
  | _ => none
def dPtr (o off : Nat) : C I → Option Unit
  | .ptr o' off' => if o = o' then if off = off' then some () else none else none
  | _ => none
def dNilp : C I → Option Unit
  | .nilp => some ()
  | _ => none
def dMap (o : Nat) : C I → Option Unit
  | .map o' => if o = o' then some () else none
  | _ => none
def ownOf (e : Nat) : C I → Option (List (I e))
  | .nils => some []
  | .own _ l => castL l
  | _ => none
def Sh.dec (s : Sh) (c : C I) : Option (s.ty I) :=
  match s with
  | .int k => dInt k c
  | .bool => dBool c
  | .str => dStr c
  | .sl e => listOf e c
  | .acc e => accOf e c
  | .own e => ownOf e c
  | .ptr o off => dPtr o off c
  | .nilp => dNilp c
  | .map o => dMap o c
def Sh.enc : (s : Sh) → s.ty I → C I
  | .int k, n => .int k n
  | .bool, b => .bool (.b b)
  | .str, s => .str s
  | .sl e, l => .sl e l
  | .acc e, l => .acc e l
  | .own e, l => .own e l
  | .ptr o off, _ => .ptr o off
  | .nilp, _ => .nilp
  | .map o, _ => .map o
def Shs.dec : (l : List Sh) → List (C I) → Option (Shs.ty I l)
  | [], cs => match cs with | [] => some () | _ :: _ => none
  | [s], cs => match cs with | [c] => s.dec c | _ => none
  | s :: t :: ss, cs => match cs with | c :: cs => (match s.dec c with | some x => (match Shs.dec (t :: ss) cs with | some y => some (x, y) | none => none) | none => none) | [] => none
def Shs.enc : (l : List Sh) → Shs.ty I l → List (C I)
  | [], _ => []
  | [s], x => [s.enc x]
  | s :: t :: ss, x => s.enc x.1 :: Shs.enc (t :: ss) x.2
def oneOf : X I → Option (C I)
  | .y (.one c) => some c
  | _ => none
def aggOf : X I → Option (List (C I))
  | .y (.agg cs) => some (cs.map C.weak)
  | _ => none
def fnOf (f : Nat) : X I → Option (List (C I))
  | .fn f' cs => if f = f' then some (cs.map C.weak) else none
  | _ => none
def rsOf (o e : Nat) : X I → Option Unit
  | .rs o' e' => if o = o' then if e = e' then some () else none else none
  | _ => none
def SX.dec (s : SX) (x : X I) : Option (s.ty I) :=
  match s with
  | .one s => (match oneOf x with | some c => s.dec c | none => none)
  | .agg l => (match aggOf x with | some cs => Shs.dec l cs | none => none)
  | .fn f l => (match fnOf f x with | some cs => Shs.dec l cs | none => none)
  | .rs o e => rsOf o e x
def SX.enc : (s : SX) → s.ty I → X I
  | .one s, x => .c (s.enc x)
  | .agg l, x => .y (.agg (Shs.enc l x))
  | .fn f l, x => .fn f (Shs.enc l x)
  | .rs o e, _ => .rs o e
def SXs.dec : (l : List SX) → List (X I) → Option (SXs.ty I l)
  | [], cs => match cs with | [] => some () | _ :: _ => none
  | [s], cs => match cs with | [c] => s.dec c | _ => none
  | s :: t :: ss, cs => match cs with | c :: cs => (match s.dec c with | some x => (match SXs.dec (t :: ss) cs with | some y => some (x, y) | none => none) | none => none) | [] => none
def SXs.enc : (l : List SX) → SXs.ty I l → List (X I)
  | [], _ => []
  | [s], x => [s.enc x]
  | s :: t :: ss, x => s.enc x.1 :: SXs.enc (t :: ss) x.2
def varOf : O I → Option (List (C I))
  | .var cs => some cs
  | _ => none
def rowOfO (e : Nat) : O I → Option (List (I e))
  | .row _ l => castL l
  | _ => none
def mapOfO (kd : Kd) (k e : Nat) : O I → Option (List (I k × I e))
  | .map kd' _ _ l => if kd = kd' then castM l else none
  | _ => none
/-- Whatever it is, it is let go. -/
def goneOf : O I → Option Unit
  | .row _ _ => none
  | _ => some ()
def SO.dec (s : SO) (x : O I) : Option (s.ty I) :=
  match s with
  | .var l => (match varOf x with | some cs => Shs.dec l cs | none => none)
  | .row e => rowOfO e x
  | .map kd k e => mapOfO kd k e x
  | .gone => goneOf x
def SO.enc : (s : SO) → s.ty I → O I
  | .var l, x => .var (Shs.enc l x)
  | .row e, l => .row e l
  | .map kd k e, l => .map kd k e l
  | .gone, _ => .gone
/-- The first variables; what stands behind them is let go. -/
def SOs.dec : (l : List SO) → Hp I → Option (SOs.ty I l)
  | [], _ => some ()
  | [s], cs => match cs with | c :: _ => s.dec c | [] => none
  | s :: t :: ss, cs => match cs with | c :: cs => (match s.dec c with | some x => (match SOs.dec (t :: ss) cs with | some y => some (x, y) | none => none) | none => none) | [] => none
def SOs.enc : (l : List SO) → SOs.ty I l → Hp I
  | [], _ => []
  | [s], x => [s.enc x]
  | s :: t :: ss, x => s.enc x.1 :: SOs.enc (t :: ss) x.2
def yX (H : Hp I) : X I → Option (Y I) := yOfX H
def tupOf : X I → Option (List (X I))
  | .tup ys => some (ys.map fun y => X.y y.weak)
  | _ => none
def SR.dec (s : SR) (x : X I) : Option (s.ty I) :=
  match s with
  | .one s => s.dec x
  | .tup l => (match tupOf x with | some xs => SXs.dec l xs | none => none)
def xY : X I → Y I
  | .y y => y
  | _ => .agg []
def SR.enc : (s : SR) → s.ty I → X I
  | .one s, x => s.enc x
  | .tup l, x => .tup ((SXs.enc l x).map xY)

/-- The slots of a frame. -/
def pickSlots (fr : Fr I) (l : List (Nat × SX)) : List (X I) := l.map fun p => fr.get p.1
def laySlots (n : Nat) : List Nat → List (X I) → Fr I
  | t :: ts, x :: xs => (laySlots n ts xs).put t x
  | _, _ => List.replicate n .dead

/-! ### Static checks -/
def Sh.below (n : Nat) : Sh → Bool
  | .ptr o _ => decide (o < n)
  | .map o => decide (o < n)
  | _ => true
def SX.below (n : Nat) : SX → Bool
  | .one s => s.below n
  | .agg l => l.all (·.below n)
  | .fn _ l => l.all (·.below n)
  | .rs o _ => decide (o < n)
def SO.below (n : Nat) : SO → Bool
  | .var l => l.all (·.below n)
  | .row _ => true
  | .map _ _ _ => true
  | .gone => true
def SX.plain : SX → Bool
  | .one (.acc _) => false
  | .one (.own _) => false
  | .one _ => true
  | .agg _ => true
  | _ => false
def Sh.noAcc : Sh → Bool
  | .acc _ => false
  | .own _ => false
  | _ => true
def SX.okA : SX → Bool
  | .agg l => l.all Sh.noAcc
  | .fn _ l => l.all Sh.noAcc
  | _ => true
end

section
variable {I : Nat → Type} {P : Program} {T : Ty I} {w w' : World} {E E' : Nat → Nat} {φ φ' : List Nat} {fr fr1 : Fr I} {H H' : Hp I} {R : Type} {out : R} {o : Oper} {tm : Array Value}

/-- Whatever bears c bears d, and d has no right that c has not. -/
def RefC (T : Ty I) (n : Nat) (c d : C I) : Prop :=
  (∀ φ w E v, RepT T φ w E v c → RepT T (φ.take n) w E v d) ∧ ∀ v b, tokC v d = some b → ∀ φ w E, RepT T φ w E v c → tokC v c = some b

theorem take_get {φ : List Nat} {n o b : Nat} (h : φ[o]? = some b) (hn : o < n) : (φ.take n)[o]? = some b := by
  rw [List.getElem?_take, if_pos hn]; exact h

theorem Sh.ref {s : Sh} {n : Nat} {c : C I} {x : s.ty I} (hb : s.below n = true) (h : s.dec c = some x) : RefC T n c (s.enc x) := by
  cases s with
  | int k =>
    replace h : dInt k c = some x := h
    unfold dInt at h
    split at h
    · split at h
      · rename_i e; cases h; subst e; exact ⟨fun φ w E v q => (show RepC T w E v (.int k _) from q), fun v b q => by cases q⟩
      · cases h
    · cases h
  | bool =>
    replace h : dBool c = some x := h
    unfold dBool at h
    split at h
    · rename_i b
      cases h
      refine ⟨fun φ w E v q => ?_, fun v b q => by cases q⟩
      have q : RepC T w E v (.bool b) := q
      cases q
      exact (show RepC T w E _ (.bool (.b b.get)) from RepC.bool (.b b.get))
    · cases h
  | str =>
    replace h : dStr c = some x := h
    unfold dStr at h
    split at h
    · cases h; exact ⟨fun φ w E v q => (show RepC T w E v (.str _) from q), fun v b q => by cases q⟩
    · cases h
  | sl e =>
    replace h : listOf e c = some x := h
    exact ⟨fun φ w E v q => (show RepC T w E v (.sl e x) from listOf_rep (φ := φ) q h), fun v b q => by cases q⟩
  | acc e =>
    replace h : accOf e c = some x := h
    refine ⟨fun φ w E v q => ?_, fun v b q φ w E p => ?_⟩
    · obtain ⟨r1, r2, _⟩ := accOf_rep q h; exact (show RepC T w E v (.sl e x) ∧ Tok w E (T.sz e) v from ⟨r1, r2⟩)
    · obtain ⟨_, _, r3⟩ := accOf_rep p h
      have q : tokV v = some b := q
      rcases r3 with r3 | r3
      · rw [r3]; exact q
      · rw [r3] at q; cases q
  | own e =>
    replace h : ownOf e c = some x := h
    unfold ownOf at h
    split at h
    · cases h
      refine ⟨fun φ w E v q => ?_, fun v b q φ w E p => ?_⟩
      · have q : RepC T w E v .nils := q
        cases q
        exact .inl ⟨rfl, none, rfl⟩
      · have p : RepC T w E v .nils := p
        cases p
        cases q
    · obtain ⟨rfl, rfl⟩ := castL_eq h
      exact ⟨fun φ w E v q => q, fun v b q φ w E p => q⟩
    · cases h
  | ptr o off =>
    replace h : dPtr o off c = some x := h
    unfold dPtr at h
    split at h
    · split at h
      · rename_i e1
        split at h
        · rename_i e2
          subst e1; subst e2
          refine ⟨fun φ w E v q => ?_, fun v b q => by cases q⟩
          obtain ⟨b, h1, h2⟩ := q
          exact ⟨b, take_get h1 (by simpa [Sh.below] using hb), h2⟩
        · cases h
      · cases h
    · cases h
  | nilp =>
    replace h : dNilp c = some x := h
    unfold dNilp at h
    split at h
    · exact ⟨fun φ w E v q => (show RepC T w E v .nilp from q), fun v b q => by cases q⟩
    · cases h
  | map o =>
    replace h : dMap o c = some x := h
    unfold dMap at h
    split at h
    · split at h
      · rename_i e1
        subst e1
        refine ⟨fun φ w E v q => ?_, fun v b q => by cases q⟩
        obtain ⟨b, h1, h2⟩ := q
        exact ⟨b, take_get h1 (by simpa [Sh.below] using hb), h2⟩
      · cases h
    · cases h

theorem Sh.enc_weak {s : Sh} (x : s.ty I) (h : s.noAcc = true) : (s.enc x).weak = s.enc x := by cases s <;> first | rfl | cases h

theorem Shs.ref {n : Nat} : ∀ {l : List Sh} {cs : List (C I)} {x : Shs.ty I l}, l.all (·.below n) = true → Shs.dec l cs = some x → (Shs.enc l x).length = cs.length ∧ ∀ (j : Nat) d, (Shs.enc l x)[j]? = some d → ∃ c, cs[j]? = some c ∧ RefC T n c d
  | [], [], x, _, h => ⟨rfl, fun j d q => by cases q⟩
  | [s], [c], x, hb, h => by
    replace h : s.dec c = some x := h
    refine ⟨rfl, fun j d q => ?_⟩
    cases j with
    | zero =>
      have q : some (s.enc x) = some d := q
      cases q
      exact ⟨c, rfl, Sh.ref (by simpa using hb) h⟩
    | succ j => cases q
  | s :: t :: ss, c :: cs, x, hb, h => by
    replace h : (match s.dec c with | some x => (match Shs.dec (t :: ss) cs with | some y => some (x, y) | none => none) | none => none) = some x := h
    split at h
    · rename_i x1 h1
      split at h
      · rename_i y1 h2
        cases h
        simp only [List.all_cons, Bool.and_eq_true] at hb
        obtain ⟨k1, k3⟩ := Shs.ref (l := t :: ss) (by simpa using hb.2) h2
        refine ⟨?_, fun j d q => ?_⟩
        · show (s.enc x1 :: Shs.enc (t :: ss) y1).length = _
          simp [k1]
        · have q : (s.enc x1 :: Shs.enc (t :: ss) y1)[j]? = some d := q
          cases j with
          | zero => simp at q; subst q; exact ⟨c, rfl, Sh.ref hb.1 h1⟩
          | succ j => exact k3 j d (by simpa using q)
      · cases h
    · cases h
  | [], _ :: _, _, _, h => by cases h
  | [s], [], _, _, h => by cases h
  | [s], _ :: _ :: _, _, _, h => by cases h
  | _ :: _ :: _, [], _, _, h => by cases h

def RefX (T : Ty I) (n : Nat) (H H' : Hp I) (x y : X I) : Prop :=
  (∀ φ w E v, RepX T φ H w E v x → RepX T (φ.take n) H' w E v y) ∧ ∀ v b, tokX v y = some b → ∀ φ w E, RepX T φ H w E v x → tokX v x = some b

theorem SX.ref {s : SX} {n : Nat} {x : X I} {z : s.ty I} (hb : s.below n = true) (hrow : ∀ o r, o < n → rowAt H o = some r → rowAt H' o = some r) (h : s.dec x = some z) : RefX T n H H' x (s.enc z) := by
  have agg : ∀ {l : List Sh} {cs : List (C I)} {z : Shs.ty I l} {arr : Array Value} {φ : List Nat} {w : World} {E : Nat → Nat}, l.all (·.below n) = true → Shs.dec l (cs.map C.weak) = some z → arr.size = cs.length →
      (∀ (j : Nat) c, cs[j]? = some c → ∃ u, arr[j]? = some u ∧ RepT T φ w E u c.weak) → arr.size = (Shs.enc l z).length ∧ ∀ (j : Nat) c, (Shs.enc l z)[j]? = some c → ∃ u, arr[j]? = some u ∧ RepT T (φ.take n) w E u c.weak := by
    intro l cs z arr φ w E hb h hs hj
    obtain ⟨k1, k3⟩ := Shs.ref (T := T) (n := n) hb h
    refine ⟨by rw [hs, k1]; simp, fun j c hc => ?_⟩
    obtain ⟨c0, h0, hr⟩ := k3 j c hc
    simp only [List.getElem?_map] at h0
    obtain ⟨c1, h1, rfl⟩ := Option.map_eq_some_iff.1 h0
    obtain ⟨u, hu, hru⟩ := hj j c1 h1
    exact ⟨u, hu, (hr.1 φ w E u hru).weak⟩
  cases s with
  | one s =>
    replace h : (match oneOf x with | some c => s.dec c | none => none) = some z := h
    split at h
    · rename_i c hc
      unfold oneOf at hc
      split at hc
      · cases hc
        obtain ⟨h1, h2⟩ := Sh.ref (T := T) (n := n) hb h
        exact ⟨fun φ w E v q => h1 φ w E v q, fun v b q φ w E p => h2 v b q φ w E p⟩
      · cases hc
    · cases h
  | agg l =>
    replace h : (match aggOf x with | some cs => Shs.dec l cs | none => none) = some z := h
    split at h
    · rename_i c hc
      unfold aggOf at hc
      split at hc
      · cases hc
        refine ⟨fun φ w E v q => ?_, fun v b q => by cases q⟩
        obtain ⟨arr, hv, hs, hj⟩ := q
        obtain ⟨g1, g2⟩ := agg hb h hs hj
        exact ⟨arr, hv, g1, g2⟩
      · cases hc
    · cases h
  | fn f l =>
    replace h : (match fnOf f x with | some cs => Shs.dec l cs | none => none) = some z := h
    split at h
    · rename_i c hc
      unfold fnOf at hc
      split at hc
      · split at hc
        · rename_i e
          cases hc
          subst e
          refine ⟨fun φ w E v q => ?_, fun v b q => by cases q⟩
          obtain ⟨arr, hv, hs, hj⟩ := q
          obtain ⟨g1, g2⟩ := agg hb h hs hj
          exact ⟨arr, hv, g1, g2⟩
        · cases hc
      · cases hc
    · cases h
  | rs o e =>
    replace h : rsOf o e x = some z := h
    unfold rsOf at h
    split at h
    · split at h
      · rename_i e1
        split at h
        · rename_i e2
          subst e1; subst e2
          refine ⟨fun φ w E v q => ?_, fun v b q => by cases q⟩
          obtain ⟨m, h1, h2⟩ := q
          have ho : o < n := by simpa [SX.below] using hb
          refine ⟨m, hrow o _ ho h1, h2.imp id ?_⟩
          rintro ⟨b, cap, q1, q2⟩
          exact ⟨b, cap, take_get q1 ho, q2⟩
        · cases h
      · cases h
    · cases h

theorem SXs.ref {n : Nat} (hrow : ∀ o r, o < n → rowAt H o = some r → rowAt H' o = some r) : ∀ {l : List SX} {xs : List (X I)} {z : SXs.ty I l}, l.all (·.below n) = true → SXs.dec l xs = some z → (SXs.enc l z).length = xs.length ∧ ∀ (j : Nat) y, (SXs.enc l z)[j]? = some y → ∃ x, xs[j]? = some x ∧ RefX T n H H' x y
  | [], [], x, _, h => ⟨rfl, fun j d q => by cases q⟩
  | [s], [c], x, hb, h => by
    replace h : s.dec c = some x := h
    refine ⟨rfl, fun j d q => ?_⟩
    cases j with
    | zero =>
      have q : some (s.enc x) = some d := q
      cases q
      exact ⟨c, rfl, SX.ref (by simpa using hb) hrow h⟩
    | succ j => cases q
  | s :: t :: ss, c :: cs, x, hb, h => by
    replace h : (match s.dec c with | some x => (match SXs.dec (t :: ss) cs with | some y => some (x, y) | none => none) | none => none) = some x := h
    split at h
    · rename_i x1 h1
      split at h
      · rename_i y1 h2
        cases h
        simp only [List.all_cons, Bool.and_eq_true] at hb
        obtain ⟨k1, k3⟩ := SXs.ref hrow (l := t :: ss) (by simpa using hb.2) h2
        refine ⟨?_, fun j d q => ?_⟩
        · show (s.enc x1 :: SXs.enc (t :: ss) y1).length = _
          simp [k1]
        · have q : (s.enc x1 :: SXs.enc (t :: ss) y1)[j]? = some d := q
          cases j with
          | zero => simp at q; subst q; exact ⟨c, rfl, SX.ref hb.1 hrow h1⟩
          | succ j => exact k3 j d (by simpa using q)
      · cases h
    · cases h
  | [], _ :: _, _, _, h => by cases h
  | [s], [], _, _, h => by cases h
  | [s], _ :: _ :: _, _, _, h => by cases h
  | _ :: _ :: _, [], _, _, h => by cases h
end
end Go.Proofs.YtgefikclhfjcgaaDoorEv

namespace Go.Proofs.YtgefikclhfjcgaaDoorEv
open Go Go.RowKit
set_option linter.unusedVariables false
set_option linter.unusedSectionVars false
set_option linter.unusedSimpArgs false

section
variable {I : Nat → Type} {P : Program} {T : Ty I} {w w' : World} {E E' : Nat → Nat} {φ φ' : List Nat} {fr fr1 : Fr I} {H H' : Hp I} {R : Type} {out : R} {o : Oper} {tm : Array Value}

def RefO (T : Ty I) (n : Nat) (x y : O I) : Prop :=
  (x = .gone → y = .gone) ∧ (∀ φ w E b, RepO T φ w E b x → RepO T (φ.take n) w E b y) ∧ (∀ e k, (∃ l : List (I e), x = .row e l ∧ l.length = k) → ∃ l : List (I e), y = .row e l ∧ l.length = k) ∧
  ∀ ds, y = .var ds → ∃ cs, x = .var cs ∧ ds.length = cs.length ∧ ∀ (j : Nat) d, ds[j]? = some d → ∃ c, cs[j]? = some c ∧ RefC T n c d

theorem SO.ref {s : SO} {n : Nat} {x : O I} {z : s.ty I} (hb : s.below n = true) (h : s.dec x = some z) : RefO T n x (s.enc z) := by
  cases s with
  | var l =>
    replace h : (match varOf x with | some cs => Shs.dec l cs | none => none) = some z := h
    split at h
    · rename_i cs hc
      unfold varOf at hc
      split at hc
      · cases hc
        obtain ⟨k1, k3⟩ := Shs.ref (T := T) (n := n) hb h
        refine ⟨fun q => (by cases q), fun φ w E b q => ?_, fun e k q => ?_, fun ds q => ?_⟩
        · obtain ⟨arr, ty, a1, a2, a3⟩ := q
          refine ⟨arr, ty, a1, by rw [a2, k1], fun j d hd => ?_⟩
          obtain ⟨c, hc, hr⟩ := k3 j d hd
          obtain ⟨u, hu, hru⟩ := a3 j c hc
          exact ⟨u, hu, hr.1 φ w E u hru⟩
        · obtain ⟨l, q, _⟩ := q; cases q
        · cases q
          exact ⟨cs, rfl, k1, k3⟩
      · cases hc
    · cases h
  | row e =>
    replace h : rowOfO e x = some z := h
    unfold rowOfO at h
    split at h
    · obtain ⟨he, hz⟩ := castL_eq h
      subst he
      subst hz
      refine ⟨fun q => (by cases q), fun φ w E b q => q, fun e k q => q, fun ds q => ?_⟩
      cases q
    · cases h
  | map kd k e =>
    replace h : mapOfO kd k e x = some z := h
    unfold mapOfO at h
    split at h
    · split at h
      · rename_i e1
        subst e1
        unfold castM at h
        split at h
        · split at h
          · rename_i h1 h2
            subst h1; subst h2
            cases h
            refine ⟨fun q => (by cases q), fun φ w E b q => q, fun e k q => (by obtain ⟨l, q, _⟩ := q; cases q), fun ds q => (by cases q)⟩
          · cases h
        · cases h
      · cases h
    · cases h
  | gone =>
    replace h : goneOf x = some z := h
    refine ⟨fun _ => rfl, fun φ w E b q => trivial, fun e k q => ?_, fun ds q => (by cases q)⟩
    obtain ⟨l, rfl, _⟩ := q
    cases h

theorem SOs.ref {n : Nat} : ∀ {l : List SO} {xs : Hp I} {z : SOs.ty I l}, l.all (·.below n) = true → SOs.dec l xs = some z → (SOs.enc l z).length = l.length ∧ l.length ≤ xs.length ∧ ∀ (j : Nat) y, (SOs.enc l z)[j]? = some y → ∃ x, xs[j]? = some x ∧ RefO T n x y
  | [], xs, x, _, h => ⟨rfl, by simp, fun j d q => by cases q⟩
  | [s], c :: cs, x, hb, h => by
    replace h : s.dec c = some x := h
    refine ⟨rfl, by simp, fun j d q => ?_⟩
    cases j with
    | zero =>
      replace q : some (s.enc x) = some d := q
      cases q
      exact ⟨c, rfl, SO.ref (by simpa using hb) h⟩
    | succ j => cases q
  | s :: t :: ss, c :: cs, x, hb, h => by
    replace h : (match s.dec c with | some x => (match SOs.dec (t :: ss) cs with | some y => some (x, y) | none => none) | none => none) = some x := h
    split at h
    · rename_i x1 h1
      split at h
      · rename_i y1 h2
        cases h
        simp only [List.all_cons, Bool.and_eq_true] at hb
        obtain ⟨k1, k2, k3⟩ := SOs.ref (l := t :: ss) (by simpa using hb.2) h2
        refine ⟨?_, by simpa using k2, fun j d q => ?_⟩
        · show (s.enc x1 :: SOs.enc (t :: ss) y1).length = _
          simp [k1]
        · replace q : (s.enc x1 :: SOs.enc (t :: ss) y1)[j]? = some d := q
          cases j with
          | zero => simp at q; subst q; exact ⟨c, rfl, SO.ref hb.1 h1⟩
          | succ j => exact k3 j d (by simpa using q)
      · cases h
    · cases h
  | [s], [], _, _, h => by cases h
  | _ :: _ :: _, [], _, _, h => by cases h

theorem rows_ref {n : Nat} (hlen : H'.length = n) (hle : n ≤ H.length) (hobj : ∀ (j : Nat) y, H'[j]? = some y → ∃ x, H[j]? = some x ∧ RefO T n x y) : ∀ o r, o < n → rowAt H o = some r → rowAt H' o = some r := by
  intro o r ho h
  have hy : o < H'.length := by omega
  obtain ⟨x, hx, hr⟩ := hobj o H'[o] (List.getElem?_eq_getElem hy)
  unfold rowAt at h ⊢
  rw [hx] at h
  rw [List.getElem?_eq_getElem hy]
  cases x with
  | row e l =>
    cases h
    obtain ⟨l', h1, h2⟩ := hr.2.2.1 e l.length ⟨l, rfl, rfl⟩
    rw [h1]
    simp only [h2]
  | var cs => cases h
  | map a b c d => cases h
  | gone => cases h

/-- A state of a known shape. -/
theorem refine_state (hs : Sim T φ E w fr H tm) {n : Nat} (hlen : H'.length = n) (hle : n ≤ H.length) (hobj : ∀ (j : Nat) y, H'[j]? = some y → ∃ x, H[j]? = some x ∧ RefO T n x y)
    (hfl : fr1.length ≤ tm.size) (hfr : ∀ t, fr1.get t = .dead ∨ RefX T n H H' (fr.get t) (fr1.get t)) :
    Sim T (φ.take n) E w fr1 H' tm ∧ (∀ i b, tokOf (φ.take n) H' w fr1 tm i = some b → tokOf φ H w fr tm i = some b) ∧ (∀ o, o < n → live H' o → live H o) := by
  have htake : ∀ (o b : Nat), (φ.take n)[o]? = some b → o < n ∧ φ[o]? = some b := by
    intro o b h
    rw [List.getElem?_take] at h
    split at h
    · exact ⟨by assumption, h⟩
    · cases h
  have key : ∀ i b, tokOf (φ.take n) H' w fr1 tm i = some b → tokOf φ H w fr tm i = some b := by
    intro i b h
    cases i with
    | slot t =>
      simp only [tokOf] at h ⊢
      rcases hfr t with q | q
      · rw [q] at h; cases h
      · exact q.2 _ b h φ w E (hs.slots t)
    | cell o' j =>
      simp only [tokOf] at h
      cases h1 : (φ.take n)[o']? with
      | none => simp [h1] at h
      | some bb =>
        cases h2 : H'[o']? with
        | none => simp [h1, h2] at h
        | some y =>
          cases y with
          | var ds =>
            simp only [h1, h2] at h
            cases h3 : ds[j]? with
            | none => simp [h3] at h
            | some d =>
              cases h4 : w.cell? ⟨bb, j, none⟩ with
              | none => simp [h3, h4] at h
              | some u =>
                simp only [h3, h4] at h
                obtain ⟨x, hx, hr⟩ := hobj o' _ h2
                obtain ⟨cs, e1, e2, e3⟩ := hr.2.2.2 ds rfl
                obtain ⟨c, hc, hrc⟩ := e3 j d h3
                obtain ⟨_, hφ⟩ := htake o' bb h1
                subst e1
                obtain ⟨arr, ty, a1, a2, a3⟩ := hs.objs o' bb _ hφ hx
                obtain ⟨u', hu', hru⟩ := a3 j c hc
                have hcell : w.cell? ⟨bb, j, none⟩ = some u' := by simp [World.cell?, a1, hu']
                rw [hcell] at h4; cases h4
                simp only [tokOf, hφ, hx, hc, hcell]
                exact hrc.2 _ b h φ w E hru
          | row e l => simp [h1, h2] at h
          | map a b c d => simp [h1, h2] at h
          | gone => simp [h1, h2] at h
  have hlv : ∀ o, o < n → live H' o → live H o := fun o ho hl => by
    have hy : o < H'.length := by omega
    obtain ⟨x, hx, hr⟩ := hobj o _ (List.getElem?_eq_getElem hy)
    refine ⟨fun q => ?_, fun e q => ?_⟩
    · rw [hx] at q; cases q
      exact hl.1 (by rw [List.getElem?_eq_getElem hy, hr.1 rfl])
    · rw [hx] at q; cases q
      obtain ⟨l', h1, h2⟩ := hr.2.2.1 e 0 ⟨[], rfl, rfl⟩
      have := List.length_eq_zero_iff.1 h2
      subst this
      exact hl.2 e (by rw [List.getElem?_eq_getElem hy, h1])
  refine ⟨{ len := ?_, objs := ?_, slots := ?_, flen := hfl, inj := ?_, zero := ?_, fresh := hs.fresh, tinj := ?_, tobj := ?_, tlt := ?_, glob := hs.glob }, key, hlv⟩
  · rw [List.length_take, hs.len]; omega
  · intro o b ob h1 h2
    obtain ⟨_, hφ⟩ := htake o b h1
    obtain ⟨x, hx, hr⟩ := hobj o ob h2
    exact hr.2.1 φ w E b (hs.objs o b x hφ hx)
  · intro t
    rcases hfr t with q | q
    · rw [q]; trivial
    · exact q.1 φ w E _ (hs.slots t)
  · intro o o' b h1 h2 l1 l2
    exact hs.inj o o' b (htake o b h1).2 (htake o' b h2).2 (hlv o (htake o b h1).1 l1) (hlv o' (htake o' b h2).1 l2)
  · intro o b h1
    exact ⟨fun q => (hs.zero o b (htake o b h1).2).1 (hlv o (htake o b h1).1 q), (hs.zero o b (htake o b h1).2).2⟩
  · intro i j b hi hj; exact hs.tinj i j b (key i b hi) (key j b hj)
  · intro i b o hi lv ho; exact hs.tobj i b o (key i b hi) (hlv o (htake o b ho).1 lv) (htake o b ho).2
  · intro i b hi; exact hs.tlt i b (key i b hi)

theorem laySlots_length (n : Nat) : ∀ (ts : List Nat) (xs : List (X I)), (laySlots n ts xs).length = n
  | t :: ts, x :: xs => by simp [laySlots, Fr.put, laySlots_length n ts xs]
  | [], [] => by simp [laySlots]
  | [], _ :: _ => by simp [laySlots]
  | _ :: _, [] => by simp [laySlots]

theorem laySlots_get (n : Nat) : ∀ (ts : List Nat) (xs : List (X I)) (s : Nat), (laySlots n ts xs).get s = .dead ∨ ∃ j : Nat, ts[j]? = some s ∧ xs[j]? = some ((laySlots n ts xs).get s)
  | t :: ts, x :: xs, s => by
    simp only [laySlots]
    rw [get_put]
    split
    · rename_i h; right; exact ⟨0, by simp [h.1], by simp⟩
    · rcases laySlots_get n ts xs s with h | ⟨j, h1, h2⟩
      · exact .inl h
      · right; exact ⟨j + 1, by simpa using h1, by simpa using h2⟩
  | [], xs, s => by left; cases xs <;> (simp only [laySlots, Fr.get, List.getD_eq_getElem?_getD]; by_cases h : s < n <;> simp [h])
  | _ :: _, [], s => by left; simp only [laySlots, Fr.get, List.getD_eq_getElem?_getD]; by_cases h : s < n <;> simp [h]
end

/-! ### A function -/

/-- Where a function's text is cut: the region, the slots and the variables that live there, and what the ways from there come to. -/
structure Cut (I : Nat → Type) (R : Type) where
  id : Nat
  slots : List (Nat × SX)
  heap : List SO
  F : Nat → SXs.ty I (slots.map (·.2)) → SOs.ty I heap → Option R

section
variable {I : Nat → Type} {R : Type}
def Cut.frame (c : Cut I R) (N : Nat) (a : SXs.ty I (c.slots.map (·.2))) : Fr I := laySlots N (c.slots.map (·.1)) (SXs.enc _ a)
def Cut.run (c : Cut I R) (N n : Nat) (fr : Fr I) (H : Hp I) : Option R :=
  if fr.length = N then
    match SXs.dec (c.slots.map (·.2)) (pickSlots fr c.slots) with
    | some a => (match SOs.dec c.heap H with | some b => c.F n a b | none => none)
    | none => none
  else none
def cutOf (cuts : List (Cut I R)) (N n id : Nat) : Option (Fr I → Hp I → Option R) := (cuts.find? (fun c => c.id == id)).map (fun c => c.run N n)

/-- What a call comes to, as Lean's values. -/
def Out (I : Nat → Type) (res : SR) (hout : List SO) : Type := match hout with | [] => SR.ty I res | h :: t => SR.ty I res × SOs.ty I (h :: t)
def pack (res : SR) : (hout : List SO) → SR.ty I res → SOs.ty I hout → Out I res hout
  | [], a, _ => a
  | _ :: _, a, b => (a, b)
def outX (res : SR) : (hout : List SO) → Out I res hout → SR.ty I res
  | [], a => a
  | _ :: _, a => a.1
def outH (res : SR) : (hout : List SO) → Out I res hout → SOs.ty I hout
  | [], _ => ()
  | _ :: _, a => a.2
def finOf (res : SR) (hout : List SO) (x : X I) (H : Hp I) : Option (Out I res hout) :=
  match SR.dec res x with
  | some a => (match SOs.dec hout H with | some b => some (pack res hout a b) | none => none)
  | none => none
theorem outX_pack (res : SR) (hout : List SO) (a : SR.ty I res) (b : SOs.ty I hout) : outX res hout (pack res hout a b) = a := by cases hout <;> rfl
theorem outH_pack (res : SR) (hout : List SO) (a : SR.ty I res) (b : SOs.ty I hout) : outH res hout (pack res hout a b) = b := by cases hout <;> rfl

def SR.below (n : Nat) : SR → Bool
  | .one s => s.below n
  | .tup l => l.all (fun s => s.below n && (match s with | .one _ | .agg _ => true | _ => false))
def startFr (N : Nat) (xs : List (X I)) : Fr I := xs ++ List.replicate (N - xs.length) .dead
end
end Go.Proofs.YtgefikclhfjcgaaDoorEv

namespace Go.Proofs.YtgefikclhfjcgaaDoorEv
open Go Go.RowKit
set_option linter.unusedVariables false
set_option linter.unusedSectionVars false
set_option linter.unusedSimpArgs false

section
variable {I : Nat → Type} {P : Program} {T : Ty I} {w w' : World} {E E' : Nat → Nat} {φ φ' : List Nat} {fr fr1 : Fr I} {H H' : Hp I} {R : Type} {tm : Array Value}

theorem xY_rep {s : SX} (hs : (match s with | .one _ | .agg _ => true | _ => false) = true) {v : Value} (z : s.ty I) (h : RepX T φ H w E v (s.enc z)) : RepY T φ w E v (xY (s.enc z)) := by
  cases s with
  | one s => exact h
  | agg l => exact h
  | fn f l => cases hs
  | rs o e => cases hs

theorem SXs.enc_mem : ∀ {l : List SX} {z : SXs.ty I l} {j : Nat} {y : X I}, (SXs.enc l z)[j]? = some y → ∃ (s : SX) (zz : s.ty I), s ∈ l ∧ y = s.enc zz
  | [], z, j, y, h => by simp [SXs.enc] at h
  | [s], z, j, y, h => by
    replace h : [s.enc z][j]? = some y := h
    cases j with
    | zero => simp at h; exact ⟨s, z, by simp, h.symm⟩
    | succ j => simp at h
  | s :: t :: l, z, j, y, h => by
    replace h : (s.enc z.1 :: SXs.enc (t :: l) z.2)[j]? = some y := h
    cases j with
    | zero => simp at h; exact ⟨s, z.1, by simp, h.symm⟩
    | succ j =>
      simp only [List.getElem?_cons_succ] at h
      obtain ⟨s', zz, h1, h2⟩ := SXs.enc_mem (l := t :: l) h
      exact ⟨s', zz, List.mem_cons_of_mem _ h1, h2⟩

theorem SOs.enc_length : ∀ {l : List SO} (z : SOs.ty I l), (SOs.enc l z).length = l.length
  | [], _ => rfl
  | [s], z => rfl
  | s :: t :: l, z => by
    show (s.enc z.1 :: SOs.enc (t :: l) z.2).length = _
    simp only [List.length_cons]
    have := SOs.enc_length (l := t :: l) z.2
    simpa using this

theorem tup_ref {n : Nat} (hrow : ∀ o r, o < n → rowAt H o = some r → rowAt H' o = some r) {l : List SX} {ys : List (Y I)} {z : SXs.ty I l}
    (hb : l.all (fun s => s.below n && (match s with | .one _ | .agg _ => true | _ => false)) = true) (h : SXs.dec l (ys.map fun y => X.y y.weak) = some z) :
    RefX T n H H' (.tup ys) (.tup ((SXs.enc l z).map xY)) := by
  have hb1 : l.all (·.below n) = true := by rw [List.all_eq_true] at hb ⊢; intro s hs; have := hb s hs; simp only [Bool.and_eq_true] at this; exact this.1
  obtain ⟨k1, k2⟩ := SXs.ref (T := T) hrow hb1 h
  refine ⟨fun φ w E v q => ?_, fun v b q => by cases q⟩
  obtain ⟨arr, hv, hs, hj⟩ := q
  refine ⟨arr, hv, by rw [hs, List.length_map, k1]; simp, fun j y hy => ?_⟩
  simp only [List.getElem?_map] at hy
  obtain ⟨y0, hy0, rfl⟩ := Option.map_eq_some_iff.1 hy
  obtain ⟨x, hx, hr⟩ := k2 j y0 hy0
  simp only [List.getElem?_map] at hx
  obtain ⟨y1, hy1, rfl⟩ := Option.map_eq_some_iff.1 hx
  obtain ⟨u, hu, hru⟩ := hj j y1 hy1
  refine ⟨u, hu, ?_⟩
  have hR : RepX T (φ.take n) H' w E u y0 := hr.1 φ w E u hru
  have hsh := SXs.enc_mem hy0
  obtain ⟨s, zz, hs1, rfl⟩ := hsh
  have hok := List.all_eq_true.1 hb s hs1
  simp only [Bool.and_eq_true] at hok
  exact (xY_rep hok.2 zz hR).weak

theorem SR.ref {s : SR} {n : Nat} {x : X I} {z : s.ty I} (hb : s.below n = true) (hrow : ∀ o r, o < n → rowAt H o = some r → rowAt H' o = some r) (h : s.dec x = some z) : RefX T n H H' x (s.enc z) := by
  cases s with
  | one s => exact SX.ref hb hrow h
  | tup l =>
    replace h : (match tupOf x with | some xs => SXs.dec l xs | none => none) = some z := h
    split at h
    · rename_i xs hx
      unfold tupOf at hx
      split at hx
      · cases hx; exact tup_ref hrow hb h
      · cases hx
    · cases h

/-- From a state to the same, seen as a shape. -/
theorem Rel.ref {φ0 : List Nat} {E0 : Nat → Nat} {w0 : World} {fr0 : Fr I} {H0 : Hp I} {tm0 : Array Value} (h : Rel φ0 E0 w0 fr0 H0 tm0 φ E w fr H tm) {n : Nat} (h0 : φ0.length ≤ n) (h1 : H0.length ≤ n)
    (htok : ∀ i b, tokOf (φ.take n) H' w fr1 tm i = some b → tokOf φ H w fr tm i = some b) (hrow : ∀ o r, o < n → rowAt H o = some r → rowAt H' o = some r) (hlv : ∀ o, o < n → live H' o → live H o) : Rel φ0 E0 w0 fr0 H0 tm0 (φ.take n) E w fr1 H' tm := by
  refine ⟨h.ch, fun b q => ?_, fun o b q => ?_, fun o r q => ?_⟩
  · rcases q with ⟨o, ql, q⟩ | ⟨i, q⟩
    · rw [List.getElem?_take] at q
      split at q
      · rename_i hon
        exact h.own b (.inl ⟨o, hlv o hon ql, q⟩)
      · cases q
    · exact h.own b (.inr ⟨i, htok i b q⟩)
  · exact take_get (h.pre o b q) (by have := (List.getElem?_eq_some_iff.1 q).1; omega)
  · refine hrow o r ?_ (h.rows o r q)
    unfold rowAt at q
    split at q
    · rename_i h2; have := (List.getElem?_eq_some_iff.1 h2).1; omega
    · cases q

def Cut.go (P : Program) (T : Ty I) (fn : Func) (env : Env I R) (m : Nat) (c : Cut I R) (a : SXs.ty I (c.slots.map (·.2))) (b : SOs.ty I c.heap) : Option R :=
  match todoAt c.id (bodyOf fn) [] [] with | some k => exec P T fn env m true k (c.frame fn.ntmps a) (SOs.enc c.heap b) | none => none
def mainGo (P : Program) (T : Ty I) (fn : Func) (env : Env I R) (m : Nat) (args : List SX) (heap : List SO) (a : SXs.ty I args) (b : SOs.ty I heap) : Option R :=
  exec P T fn env m false [⟨0, [], bodyOf fn⟩] (startFr fn.ntmps (SXs.enc args a)) (SOs.enc heap b)
def Cut.fits (n0 : Nat) (c : Cut I R) : Bool := (c.slots.map (·.2)).all (·.below c.heap.length) && (c.heap.all (·.below c.heap.length) && decide (n0 ≤ c.heap.length))
def fits (heap : List SO) (res : SR) (hout : List SO) (cuts : List (Cut I R)) : Bool :=
  cuts.all (Cut.fits heap.length) && (decide (heap.length ≤ hout.length) && (hout.all (·.below hout.length) && res.below hout.length))

structure FnOK (P : Program) (T : Ty I) (fn : Func) (args : List SX) (heap : List SO) (res : SR) (hout : List SO) (cuts : List (Cut I (Out I res hout))) (env : Nat → Env I (Out I res hout))
    (F : Nat → SXs.ty I args → SOs.ty I heap → Option (Out I res hout)) : Prop where
  cut : ∀ n, (env n).cut = cutOf cuts fn.ntmps n
  fin : ∀ n, (env n).fin = finOf res hout
  stat : fits heap res hout cuts = true
  zero : ∀ c ∈ cuts, ∀ a b, c.F 0 a b = none
  step : ∀ c ∈ cuts, ∀ n a b, ∃ m, c.go P T fn (env n) m a b = c.F (n + 1) a b
  main : ∀ n a b, ∃ m, mainGo P T fn (env n) m args heap a b = F n a b

theorem startFr_get (N : Nat) (xs : List (X I)) (t : Nat) : (startFr N xs).get t = Fr.get xs t := by
  simp only [startFr, Fr.get, List.getD_eq_getElem?_getD]
  rcases Nat.lt_or_ge t xs.length with h | h
  · rw [List.getElem?_append_left h]
  · rw [List.getElem?_append_right h, List.getElem?_eq_none h]
    by_cases h2 : t - xs.length < N - xs.length <;> simp [h2]

theorem fn_ok (hok : TyOK P T) {f : FuncId} {fn : Func} {root : Code} (hf : P.funcs[f]? = some fn) (hbody : fn.body = some root) {args : List SX} {heap : List SO} {res : SR} {hout : List SO}
    {cuts : List (Cut I (Out I res hout))} {env : Nat → Env I (Out I res hout)} {F : Nat → SXs.ty I args → SOs.ty I heap → Option (Out I res hout)}
    (hfn : FnOK P T fn args heap res hout cuts env F) (hdr : P.follows .mixedOrders = true) (N : Nat) (henv : ∀ j, j ≤ N → EnvOK P T (env j)) (hdet : ∀ j, j ≤ N → EnvDet (env j)) (hnh : ∀ j, heap.length ≤ (env j).nh) (a : SXs.ty I args) (b : SOs.ty I heap) (out : Out I res hout) (h : F N a b = some out) :
    CallOK P T f (List.range heap.length) (SXs.enc args a) (SOs.enc heap b) (SR.enc res (outX res hout out)) (SOs.enc hout (outH res hout out)) := by
  intro φ0 E0 w0 vs hvs hs0
  have hroot : bodyOf fn = root := by simp [bodyOf, hbody]
  have hstat := hfn.stat
  simp only [fits, Bool.and_eq_true, decide_eq_true_eq] at hstat
  obtain ⟨st1, st2, st3, st4⟩ := hstat
  have hlen0 : (SOs.enc heap b).length = heap.length := SOs.enc_length b
  have hφ0 : φ0.length = heap.length := hs0.len.trans hlen0
  let Φ : Value → World → Prop := fun v w => ∃ φ E, Fin T (List.range heap.length) φ0 E0 w0 (SXs.enc args a) (SOs.enc heap b) vs v (SR.enc res (outX res hout out)) φ E w (SOs.enc hout (outH res hout out))
  have hΦ : ∀ φ E w x H v, finOf res hout x H = some out → Sim T φ E w [x] H #[v] → Rel φ0 E0 w0 (SXs.enc args a) (SOs.enc heap b) vs φ E w [x] H #[v] → Φ v w := by
    intro φ E w x H v hx hs hr
    unfold finOf at hx
    split at hx
    · rename_i za hza
      split at hx
      · rename_i zb hzb
        cases hx
        show ∃ φ E, Fin T (List.range heap.length) φ0 E0 w0 _ _ vs v (SR.enc res (outX res hout (pack res hout za zb))) φ E w (SOs.enc hout (outH res hout (pack res hout za zb)))
        simp only [outX_pack, outH_pack]
        obtain ⟨k1, k2, k3⟩ := SOs.ref (T := T) (n := hout.length) st3 hzb
        have hrow := rows_ref (T := T) k1 k2 k3
        have href := SR.ref (T := T) st4 hrow hza
        obtain ⟨r1, r2, r3⟩ := refine_state hs (fr1 := [SR.enc res za]) k1 k2 k3 (by simp) (fun t => by
          cases t with
          | zero => exact .inr href
          | succ t => exact .inl rfl)
        have hrel := hr.ref (n := hout.length) (by omega) (by omega) r2 hrow r3
        exact ⟨_, _, ⟨r1, hrel.ch.mono (fun b _ q => q.imp (fun ⟨o, ql, q1⟩ => ⟨o, List.mem_range.2 (by have := (List.getElem?_eq_some_iff.1 q1).1; omega), ql, q1⟩) id), hrel.own, hrel.pre, hrel.rows⟩⟩
      · cases hx
    · cases hx
  have hcuts : ∀ n, n ≤ N → ∀ id g, cutOf cuts fn.ntmps n id = some g → ∀ fr H, g fr H = some out → ∀ φ E w (a' : Act) k, todoAt id root [] [] = some k → Sim T φ E w fr H a'.tmps → a'.defers = [] →
      Rel φ0 E0 w0 (SXs.enc args a) (SOs.enc heap b) vs φ E w fr H a'.tmps → Good P f (k.map It.item) a' w Φ := by
    intro n
    induction n with
    | zero =>
      intro hnN id g hg fr H hgo
      unfold cutOf at hg
      obtain ⟨c, hc, rfl⟩ := Option.map_eq_some_iff.1 hg
      have hmem := List.mem_of_find?_eq_some hc
      unfold Cut.run at hgo
      split at hgo
      · split at hgo
        · split at hgo
          · rw [hfn.zero c hmem] at hgo; cases hgo
          · cases hgo
        · cases hgo
      · cases hgo
    | succ n ih =>
      intro hnN id g hg fr H hgo φ E w a' k hk hs hd hr
      unfold cutOf at hg
      obtain ⟨c, hc, rfl⟩ := Option.map_eq_some_iff.1 hg
      have hmem := List.mem_of_find?_eq_some hc
      have hid : c.id = id := by have := List.find?_some hc; simpa using this
      subst hid
      unfold Cut.run at hgo
      split at hgo
      · rename_i hfl
        split at hgo
        · rename_i za hza
          split at hgo
          · rename_i zb hzb
            have hfit := List.all_eq_true.1 st1 c hmem
            simp only [Cut.fits, Bool.and_eq_true, decide_eq_true_eq] at hfit
            obtain ⟨f1, f2, f3⟩ := hfit
            obtain ⟨k1, k2, k3⟩ := SOs.ref (T := T) (n := c.heap.length) f2 hzb
            have hrow := rows_ref (T := T) k1 k2 k3
            obtain ⟨g1, g2⟩ := SXs.ref (T := T) hrow f1 hza
            obtain ⟨r1, r2, r3⟩ := refine_state hs (fr1 := c.frame fn.ntmps za) k1 k2 k3 (by
                unfold Cut.frame; rw [laySlots_length, ← hfl]; exact hs.flen) (fun t => by
              rcases laySlots_get fn.ntmps (c.slots.map (·.1)) (SXs.enc _ za) t with q | ⟨j, q1, q2⟩
              · exact .inl q
              · right
                obtain ⟨x, p1, p2⟩ := g2 j _ q2
                have : x = fr.get t := by
                  simp only [pickSlots, List.getElem?_map] at p1 q1
                  obtain ⟨s1, t1, t2⟩ := Option.map_eq_some_iff.1 p1
                  rw [t1] at q1
                  simp at q1
                  rw [← t2, q1]
                rw [this] at p2
                exact p2)
            have hrel := hr.ref (n := c.heap.length) (by omega) (by omega) r2 hrow r3
            obtain ⟨m, hm⟩ := hfn.step c hmem n za zb
            rw [hgo] at hm
            unfold Cut.go at hm
            rw [hroot, hk] at hm
            have hl : Lies root k := todoAt_lies root [] [] k rfl (fun x hx => by cases hx) hk
            refine exec_ok hok (henv n (by omega)) (hdet n (by omega)) (by rw [SOs.enc_length]; exact hnh _) hf hbody hdr (Φ := Φ) (out := out) (by rw [hφ0]; exact hnh _) ?_ ?_ m true k _ _ _ E w a' hm hl r1 hd hrel
            · intro φ E w x H v hx; rw [hfn.fin n] at hx; exact hΦ φ E w x H v hx
            · intro id g hg; rw [hfn.cut n] at hg; exact ih (by omega) id g hg
          · cases hgo
        · cases hgo
      · cases hgo
  obtain ⟨m, hm⟩ := hfn.main N a b
  rw [h] at hm
  unfold mainGo at hm
  rw [hroot] at hm
  let act : Act := { tmps := vs ++ Array.replicate (fn.ntmps - vs.size) undef, defers := [] }
  have hget : ∀ t, act.tmps.getD t undef = vs.getD t undef := by
    intro t
    simp only [act, Array.getD_eq_getD_getElem?]
    rcases Nat.lt_or_ge t vs.size with q | q
    · rw [Array.getElem?_append_left q]
    · rw [Array.getElem?_append_right q, Array.getElem?_eq_none q]
      by_cases q2 : t - vs.size < fn.ntmps - vs.size <;> simp [q2]
  have htok : ∀ i, tokOf φ0 (SOs.enc heap b) w0 (startFr fn.ntmps (SXs.enc args a)) act.tmps i = tokOf φ0 (SOs.enc heap b) w0 (SXs.enc args a) vs i := by
    intro i
    cases i with
    | slot t => simp only [tokOf, hget, startFr_get]
    | cell o j => rfl
  have hs1 : Sim T φ0 E0 w0 (startFr fn.ntmps (SXs.enc args a)) (SOs.enc heap b) act.tmps := by
    refine { len := hs0.len, objs := hs0.objs, slots := fun t => ?_, flen := ?_, inj := hs0.inj, zero := hs0.zero, fresh := hs0.fresh, tinj := ?_, tobj := ?_, tlt := ?_, glob := hs0.glob }
    · rw [hget, startFr_get]; exact hs0.slots t
    · simp [act, startFr, hvs]
    · intro i j b; rw [htok, htok]; exact hs0.tinj i j b
    · intro i b o; rw [htok]; exact hs0.tobj i b o
    · intro i b; rw [htok]; exact hs0.tlt i b
  have hr1 : Rel φ0 E0 w0 (SXs.enc args a) (SOs.enc heap b) vs φ0 E0 w0 (startFr fn.ntmps (SXs.enc args a)) (SOs.enc heap b) act.tmps := by
    refine ⟨Ch.refl w0 E0 hs0.fresh _, fun b q => ?_, fun _ _ q => q, fun _ _ q => q⟩
    rcases q with q | ⟨i, q⟩
    · exact .inl (.inl q)
    · rw [htok] at q; exact .inl (.inr ⟨i, q⟩)
  have hgood : Good P f [.code root] act w0 Φ := by
    have := exec_ok hok (henv N (Nat.le_refl _)) (hdet N (Nat.le_refl _)) (by rw [SOs.enc_length]; exact hnh _) hf hbody hdr (Φ := Φ) (out := out) (by rw [hφ0]; exact hnh _) (fun φ E w x H v hx => by rw [hfn.fin N] at hx; exact hΦ φ E w x H v hx) (fun id g hg => by rw [hfn.cut N] at hg; exact hcuts N (Nat.le_refl _) id g hg)
      m false [⟨0, [], root⟩] _ _ φ0 E0 w0 act hm (fun x hx => by simp at hx; subst hx; rfl) hs1 rfl hr1
    have e : It.item ⟨0, [], root⟩ = .code root := by cases root <;> rfl
    simpa [e] using this
  intro cs
  let bf : Frame := { (default : Frame) with fn := f, kind := .normal }
  have henter : Frame.enter P f vs .normal = bf.at act [.code root] := by
    simp [Frame.enter, Frame.at, hf, hbody, bf, act]
  obtain ⟨v, w', fr', ⟨φ, E, hfin⟩, h2, h3, h4⟩ := hgood bf cs rfl rfl
  rw [← henter] at h2
  exact ⟨.returned v, w', fr', ⟨v, φ, E, rfl, hfin⟩, h2, h3, h4⟩
end
end Go.Proofs.YtgefikclhfjcgaaDoorEv

namespace Go.Proofs.YtgefikclhfjcgaaDoorEv
open Go Go.RowKit
set_option linter.unusedVariables false
set_option linter.unusedSectionVars false
set_option linter.unusedSimpArgs false

section
variable {I : Nat → Type} {P : Program} {T : Ty I} {w w' : World} {E E' : Nat → Nat} {φ φ' : List Nat} {fr fr1 : Fr I} {H H' : Hp I} {tm : Array Value}

theorem args_get (m : Nat → Option Nat) (args : List (X I)) (t : Nat) : Fr.get (args.map (renX m)) t = renX m (Fr.get args t) := by
  simp only [Fr.get, List.getD_eq_getElem?_getD, List.getElem?_map]
  cases args[t]? <;> rfl

theorem live_ren {m : Nat → Option Nat} {k i : Nat} (h : H'[k]? = (H[i]?).map (renO m)) (hl : live H' k) : live H i := by
  unfold live at hl ⊢
  rw [h] at hl
  exact ⟨fun q => hl.1 (by rw [q]; rfl), fun e q => hl.2 e (by rw [q]; rfl)⟩
theorem live_eq {i : Nat} (h : H'[i]? = H[i]?) (hl : live H' i) : live H i := by
  unfold live at hl ⊢
  rw [h] at hl
  exact hl

/-- A call of a function that knows its own variables alone. -/
theorem embed_ok (hok : TyOK P T) {g : Nat} {ids : List Nat} {args : List (X I)} {x' : X I} {Hs' : Hp I} (hnd : ids.Nodup) (hlt : ∀ i ∈ ids, i < H.length)
    (hcall : CallOK P T g (List.range ids.length) (args.map (renX (posOf ids 0))) (subH ids H) x' Hs') :
    CallOK P T g ids args H (renX (backId ids H.length ids.length Hs'.length) x') (embH ids H Hs') := by
  intro φ E w vs hvs hs
  let m := posOf ids 0
  let bk := backId ids H.length ids.length Hs'.length
  let φs : List Nat := ids.map fun i => φ.getD i 0
  have hφlen : φ.length = H.length := hs.len
  have hφs : ∀ (k b : Nat), φs[k]? = some b ↔ ∃ i, ids[k]? = some i ∧ φ[i]? = some b := by
    intro k b
    simp only [φs, List.getElem?_map, Option.map_eq_some_iff]
    constructor
    · rintro ⟨i, h1, h2⟩
      have := hlt i (List.mem_of_getElem? h1)
      refine ⟨i, h1, ?_⟩
      rw [List.getD_eq_getElem?_getD, List.getElem?_eq_getElem (by omega)] at h2
      rw [List.getElem?_eq_getElem (by omega)]
      simpa using h2
    · rintro ⟨i, h1, h2⟩
      exact ⟨i, h1, by rw [List.getD_eq_getElem?_getD, h2]; rfl⟩
  have hnd' : ∀ (k k' i : Nat), ids[k]? = some i → ids[k']? = some i → k = k' := fun k k' i h1 h2 => (List.getElem?_inj (List.getElem?_eq_some_iff.1 h1).1 hnd).1 (h1.trans h2.symm)
  have hm : ∀ o o' b, m o = some o' → φ[o]? = some b → φs[o']? = some b := fun o o' b h1 h2 => (hφs o' b).2 ⟨o, posOf_get h1, h2⟩
  have hsub : ∀ (k i : Nat), ids[k]? = some i → (subH ids H)[k]? = (H[i]?).map (renO m) := by
    intro k i h
    simp only [subH, List.getElem?_map, h, Option.map_some]
    have := hlt i (List.mem_of_getElem? h)
    rw [List.getElem?_eq_getElem this]
    rfl
  have hrow : ∀ o o' r, m o = some o' → rowAt H o = some r → rowAt (subH ids H) o' = some r := fun o o' r h1 h2 => rowAt_ren (hsub o' o (posOf_get h1)) h2
  have hsublen : (subH ids H).length = ids.length := by simp [subH]
  have hlvs : ∀ (k i : Nat), ids[k]? = some i → live (subH ids H) k → live H i := fun k i h hl => live_ren (hsub k i h) hl
  -- tokens of the callee's start
  have key : ∀ i b, tokOf φs (subH ids H) w (args.map (renX m)) vs i = some b → (∃ t, i = .slot t ∧ tokOf φ H w args vs (.slot t) = some b) ∨ ∃ k i0 j, i = .cell k j ∧ ids[k]? = some i0 ∧ tokOf φ H w args vs (.cell i0 j) = some b := by
    intro i b h
    cases i with
    | slot t =>
      left
      simp only [tokOf, args_get] at h
      exact ⟨t, rfl, tokX_ren m _ _ h⟩
    | cell k j =>
      right
      obtain ⟨bb, _, _, _, h1, _⟩ := tok_cell_inv h
      obtain ⟨i0, h2, h3⟩ := (hφs k bb).1 h1
      refine ⟨k, i0, j, rfl, h2, tok_ren (m := m) (fun b hb => ?_) (hsub k i0 h2) h⟩
      obtain ⟨i1, g1, g2⟩ := (hφs k b).1 hb
      rw [h2] at g1; cases g1; exact g2
  have hs1 : Sim T φs E w (args.map (renX m)) (subH ids H) vs := by
    refine { len := by simp [φs, hsublen], objs := ?_, slots := ?_, flen := by simpa using hs.flen, inj := ?_, zero := ?_, fresh := hs.fresh, tinj := ?_, tobj := ?_, tlt := ?_, glob := hs.glob }
    · intro k b ob h1 h2
      obtain ⟨i, g1, g2⟩ := (hφs k b).1 h1
      rw [hsub k i g1] at h2
      obtain ⟨x, h3, rfl⟩ := Option.map_eq_some_iff.1 h2
      exact (hs.objs i b x g2 h3).ren hm
    · intro t; rw [args_get]; exact (hs.slots t).ren hm hrow
    · intro k k' b h1 h2 l1 l2
      obtain ⟨i, g1, g2⟩ := (hφs k b).1 h1
      obtain ⟨i', g3, g4⟩ := (hφs k' b).1 h2
      have := hs.inj i i' b g2 g4 (hlvs k i g1 l1) (hlvs k' i' g3 l2)
      subst this
      exact hnd' k k' i g1 g3
    · intro k b h1
      obtain ⟨i, g1, g2⟩ := (hφs k b).1 h1
      exact ⟨fun q => (hs.zero i b g2).1 (hlvs k i g1 q), (hs.zero i b g2).2⟩
    · intro i j b hi hj
      rcases key i b hi with ⟨t, rfl, h1⟩ | ⟨k, i0, q, rfl, h0, h1⟩ <;> rcases key j b hj with ⟨t', rfl, h2⟩ | ⟨k', i0', q', rfl, h0', h2⟩
      · exact hs.tinj _ _ b h1 h2
      · have := hs.tinj _ _ b h1 h2; cases this
      · have := hs.tinj _ _ b h1 h2; cases this
      · have := hs.tinj _ _ b h1 h2
        cases this
        rw [hnd' k k' i0 h0 h0']
    · intro i b o hi lv ho
      obtain ⟨i1, g1, g2⟩ := (hφs o b).1 ho
      rcases key i b hi with ⟨t, rfl, h1⟩ | ⟨k, i0, q, rfl, h0, h1⟩ <;> exact hs.tobj _ b i1 h1 (hlvs o i1 g1 lv) g2
    · intro i b hi
      rcases key i b hi with ⟨t, rfl, h1⟩ | ⟨k, i0, q, rfl, h0, h1⟩ <;> exact hs.tlt _ b h1
  refine (hcall φs E w vs (by simpa using hvs) hs1).mono ?_
  rintro en w' ⟨v, φ', E', rfl, f⟩
  have hφ'len : φ'.length = Hs'.length := f.sim.len
  have hk0 : ids.length ≤ φ'.length := by
    rcases Nat.lt_or_ge φ'.length ids.length with h | h
    · have h1 : φ'.length < φs.length := by simpa [φs] using h
      have := f.pre φ'.length _ (List.getElem?_eq_getElem h1)
      rw [List.getElem?_eq_none (Nat.le_refl _)] at this
      cases this
    · exact h
  have hsame : ∀ (k i b : Nat), ids[k]? = some i → φ'[k]? = some b → φ[i]? = some b := by
    intro k i b h1 h2
    have hi := hlt i (List.mem_of_getElem? h1)
    have h3 : φ[i]? = some (φ[i]'(by omega)) := List.getElem?_eq_getElem (by omega)
    have h4 := f.pre k _ ((hφs k _).2 ⟨i, h1, h3⟩)
    rw [h2] at h4; cases h4; exact h3
  -- what the callee owns of what stood before is the caller's
  have hown : ∀ b, Own φs (subH ids H) w (args.map (renX m)) vs b → (∃ (k i : Nat), ids[k]? = some i ∧ live H i ∧ φ[i]? = some b) ∨ (∃ t, tokOf φ H w args vs (.slot t) = some b) ∨ ∃ (k i0 j : Nat), ids[k]? = some i0 ∧ tokOf φ H w args vs (.cell i0 j) = some b := by
    rintro b (⟨k, hl, h⟩ | ⟨i, h⟩)
    · obtain ⟨i, h1, h2⟩ := (hφs k b).1 h; exact .inl ⟨k, i, h1, hlvs k i h1 hl, h2⟩
    · rcases key i b h with ⟨t, _, h1⟩ | ⟨k, i0, q, _, h0, h1⟩
      · exact .inr (.inl ⟨t, h1⟩)
      · exact .inr (.inr ⟨k, i0, q, h0, h1⟩)
  have hownC : ∀ b, Own φs (subH ids H) w (args.map (renX m)) vs b → Own φ H w args vs b := by
    intro b h
    rcases hown b h with ⟨k, i, _, hl, h2⟩ | ⟨t, h2⟩ | ⟨k, i0, j, _, h2⟩
    · exact .inl ⟨i, hl, h2⟩
    · exact .inr ⟨_, h2⟩
    · exact .inr ⟨_, h2⟩
  -- a variable that isn't handed over, and a token in it, are none of the callee's
  have hfree : ∀ b, (∃ i, live H i ∧ φ[i]? = some b ∧ i ∉ ids) ∨ (∃ i j, i ∉ ids ∧ tokOf φ H w args vs (.cell i j) = some b) → b < w.heap.size ∧ ¬ Own φs (subH ids H) w (args.map (renX m)) vs b := by
    intro b h
    rcases h with ⟨i, l0, h1, h2⟩ | ⟨i, j, h2, h1⟩
    · refine ⟨(hs.zero i b h1).2, fun h => ?_⟩
      rcases hown b h with ⟨k, i', g1, l1, g2⟩ | ⟨t, g2⟩ | ⟨k, i0, j, _, g2⟩
      · have := hs.inj i i' b h1 g2 l0 l1; subst this; exact h2 (List.mem_of_getElem? g1)
      · exact hs.tobj _ b i g2 l0 h1
      · exact hs.tobj _ b i g2 l0 h1
    · refine ⟨hs.tlt _ b h1, fun h => ?_⟩
      rcases hown b h with ⟨k, i', g1, l1, g2⟩ | ⟨t, g2⟩ | ⟨k, i0, j', g1, g2⟩
      · exact hs.tobj _ b i' h1 l1 g2
      · have := hs.tinj _ _ b h1 g2; cases this
      · have := hs.tinj _ _ b h1 g2
        cases this
        exact h2 (List.mem_of_getElem? g1)
  let φ2 : List Nat := φ ++ φ'.drop ids.length
  let H2 : Hp I := embH ids H Hs'
  have hH2len : H2.length = H.length + (Hs'.length - ids.length) := by simp [H2, embH, setAll_length]
  have hset : ∀ i : Nat, i < H.length → H2[i]? = (setAll H ids (Hs'.map (renO bk)))[i]? := by
    intro i hi
    simp only [H2, embH]
    rw [List.getElem?_append_left (by rw [setAll_length]; exact hi)]
  have hnew : ∀ (k i : Nat), bk k = some i → H2[i]? = (Hs'[k]?).map (renO bk) ∧ (∀ b, φ2[i]? = some b → φ'[k]? = some b) ∧ ∀ b, φ'[k]? = some b → φ2[i]? = some b := by
    intro k i h
    simp only [bk, backId] at h
    split at h
    · rename_i hk
      have hi := hlt i (List.mem_of_getElem? h)
      refine ⟨?_, fun b hb => ?_, fun b hb => ?_⟩
      · rw [hset i hi, (setAll_get H ids _ i hnd (by simp; omega) hlt).2 k h]; simp
      · simp only [φ2] at hb
        rw [List.getElem?_append_left (by omega)] at hb
        exact f.pre k b ((hφs k b).2 ⟨i, h, hb⟩)
      · simp only [φ2]
        rw [List.getElem?_append_left (by omega)]
        exact hsame k i b h hb
    · rename_i hk
      split at h
      · rename_i hk2
        cases h
        refine ⟨?_, fun b hb => ?_, fun b hb => ?_⟩
        · simp only [H2, embH]
          rw [List.getElem?_append_right (by rw [setAll_length]; omega), setAll_length, List.getElem?_drop, show ids.length + (H.length + (k - ids.length) - H.length) = k by omega, List.getElem?_map]
        · simp only [φ2] at hb
          rw [List.getElem?_append_right (by omega), List.getElem?_drop, show ids.length + (H.length + (k - ids.length) - φ.length) = k by omega] at hb
          exact hb
        · simp only [φ2]
          rw [List.getElem?_append_right (by omega), List.getElem?_drop, show ids.length + (H.length + (k - ids.length) - φ.length) = k by omega]
          exact hb
      · cases h
  have hcase : ∀ (i b : Nat), φ2[i]? = some b → (i ∉ ids ∧ φ[i]? = some b ∧ H2[i]? = H[i]?) ∨ ∃ k, bk k = some i ∧ φ'[k]? = some b := by
    intro i b h
    rcases Nat.lt_or_ge i φ.length with hi | hi
    · cases hp : posOf ids 0 i with
      | none =>
        have hn := posOf_none ids 0 i hp
        simp only [φ2] at h
        rw [List.getElem?_append_left hi] at h
        exact .inl ⟨hn, h, by rw [hset i (by omega), (setAll_get H ids _ i hnd (by simp; omega) hlt).1 hn]⟩
      | some k =>
        have hk := posOf_get hp
        have hb : bk k = some i := by simp only [bk, backId]; rw [if_pos (List.getElem?_eq_some_iff.1 hk).1]; exact hk
        exact .inr ⟨k, hb, (hnew k i hb).2.1 b h⟩
    · have hb : bk (ids.length + (i - H.length)) = some i := by
        have := (List.getElem?_eq_some_iff.1 h).1
        simp only [φ2, List.length_append, List.length_drop] at this
        simp only [bk, backId]
        rw [if_neg (by omega), if_pos (by omega)]
        congr 1; omega
      exact .inr ⟨_, hb, (hnew _ i hb).2.1 b h⟩
  have hbinj : ∀ (k k' i : Nat), bk k = some i → bk k' = some i → k = k' := by
    intro k k' i h1 h2
    simp only [bk, backId] at h1 h2
    split at h1 <;> split at h2
    · exact hnd' k k' i h1 h2
    · have := hlt i (List.mem_of_getElem? h1); split at h2 <;> cases h2; omega
    · have := hlt i (List.mem_of_getElem? h2); split at h1 <;> cases h1; omega
    · split at h1
      · split at h2
        · have q1 := Option.some.inj h1; have q2 := Option.some.inj h2; omega
        · cases h2
      · cases h1
  have hmb : ∀ o o' b, bk o = some o' → φ'[o]? = some b → φ2[o']? = some b := fun o o' b h1 h2 => (hnew o o' h1).2.2 b h2
  have hrb : ∀ o o' r, bk o = some o' → rowAt Hs' o = some r → rowAt H2 o' = some r := fun o o' r h1 h2 => rowAt_ren (hnew o o' h1).1 h2
  have hkeep : ∀ b, b < w.heap.size → ¬ Own φs (subH ids H) w (args.map (renX m)) vs b → w'.heap[b]? = w.heap[b]? ∧ E' b = E b := fun b h1 h2 => f.ch.keep b h1 (fun q => h2 q.own)
  -- tokens of the end
  have key2 : ∀ i b, tokOf φ2 H2 w' [renX bk x'] #[v] i = some b → (∃ i0 j, i = .cell i0 j ∧ i0 ∉ ids ∧ tokOf φ H w args vs (.cell i0 j) = some b) ∨ (∃ i', tokOf φ' Hs' w' [x'] #[v] i' = some b ∧ ((i' = .slot 0 ∧ i = .slot 0) ∨ ∃ k i0 j, bk k = some i0 ∧ i' = .cell k j ∧ i = .cell i0 j)) := by
    intro i b h
    cases i with
    | slot t =>
      cases t with
      | zero => exact .inr ⟨.slot 0, tokX_ren bk _ _ h, .inl ⟨rfl, rfl⟩⟩
      | succ t => cases h
    | cell i0 j =>
      obtain ⟨bb, cs, c, u, h1, h2, h3, h4, h5⟩ := tok_cell_inv h
      rcases hcase i0 bb h1 with ⟨g1, g2, g3⟩ | ⟨k, g1, g2⟩
      · left
        refine ⟨i0, j, rfl, g1, ?_⟩
        obtain ⟨q1, q2⟩ := hfree bb (.inl ⟨i0, live_var (g3 ▸ h2), g2, g1⟩)
        rw [cell_of_block (hkeep bb q1 q2).1] at h4
        rw [tok_cell (x := .gone) (k := 0) g2 (g3 ▸ h2) h3 h4]; exact h5
      · right
        exact ⟨.cell k j, tok_ren (m := bk) (hnew k i0 g1).2.1 (hnew k i0 g1).1 h, .inr ⟨k, i0, j, g1, rfl, rfl⟩⟩
  have hapart : ∀ b, ((∃ i, live H i ∧ φ[i]? = some b ∧ i ∉ ids) ∨ (∃ i j, i ∉ ids ∧ tokOf φ H w args vs (.cell i j) = some b)) → Own φ' Hs' w' [x'] #[v] b → False := by
    intro b h1 h2
    obtain ⟨q1, q2⟩ := hfree b h1
    rcases f.own b h2 with p | p
    · exact q2 p
    · omega
  refine ⟨v, φ2, E', rfl, { sim := ?_, ch := ?_, own := ?_, pre := ?_, rows := ?_ }⟩
  · refine { len := ?_, objs := ?_, slots := ?_, flen := by simp, inj := ?_, zero := ?_, fresh := f.sim.fresh, tinj := ?_, tobj := ?_, tlt := ?_, glob := f.sim.glob }
    · show φ2.length = H2.length
      rw [hH2len]; simp only [φ2, List.length_append, List.length_drop]; omega
    · intro i b ob h1 h2
      rcases hcase i b h1 with ⟨g1, g2, g3⟩ | ⟨k, g1, g2⟩
      · have h2' : H[i]? = some ob := g3 ▸ h2
        by_cases l0 : live H i
        case neg => exact repO_dead l0 h2'
        obtain ⟨q1, q2⟩ := hfree b (.inl ⟨i, l0, g2, g1⟩)
        refine RepO.ch hok.len (hs.objs i b ob g2 h2') f.ch (fun o b q => by simp only [φ2]; rw [List.getElem?_append_left (List.getElem?_eq_some_iff.1 q).1]; exact q) q1 (fun p => q2 p.own) ?_
        intro cs e j c u hc hu kk hkk
        have ht : tokOf φ H w args vs (.cell i j) = some kk := by rw [tok_cell (x := .gone) (k := 0) g2 (e ▸ h2') hc hu]; exact hkk
        obtain ⟨p1, p2⟩ := hfree kk (.inr ⟨i, j, g1, ht⟩)
        exact ⟨fun p => p2 p.own, p1⟩
      · have := (hnew k i g1).1
        rw [show (embH ids H Hs')[i]? = H2[i]? from rfl, this] at h2
        obtain ⟨x, h3, rfl⟩ := Option.map_eq_some_iff.1 h2
        exact (f.sim.objs k b x g2 h3).ren hmb
    · intro t
      cases t with
      | zero => exact (f.sim.slots 0).ren hmb hrb
      | succ t => trivial
    · intro i i' b h1 h2 l1 l2
      rcases hcase i b h1 with ⟨g1, g2, g3⟩ | ⟨k, g1, g2⟩ <;> rcases hcase i' b h2 with ⟨g4, g5, g6⟩ | ⟨k', g4, g5⟩
      · exact hs.inj i i' b g2 g5 (live_eq g3 l1) (live_eq g6 l2)
      · exact (hapart b (.inl ⟨i, live_eq g3 l1, g2, g1⟩) (.inl ⟨k', live_ren (hnew k' i' g4).1 l2, g5⟩)).elim
      · exact (hapart b (.inl ⟨i', live_eq g6 l2, g5, g4⟩) (.inl ⟨k, live_ren (hnew k i g1).1 l1, g2⟩)).elim
      · have := f.sim.inj k k' b g2 g5 (live_ren (hnew k i g1).1 l1) (live_ren (hnew k' i' g4).1 l2)
        subst this
        rw [g1] at g4; exact Option.some.inj g4
    · intro i b h1
      rcases hcase i b h1 with ⟨g1, g2, g3⟩ | ⟨k, g1, g2⟩
      · refine ⟨fun z => ?_, Nat.lt_of_lt_of_le (hs.zero i b g2).2 f.ch.size⟩
        obtain ⟨q1, q2⟩ := hfree b (.inl ⟨i, live_eq g3 z, g2, g1⟩)
        rw [(hkeep b q1 q2).2]
        exact (hs.zero i b g2).1 (live_eq g3 z)
      · exact ⟨fun z => (f.sim.zero k b g2).1 (live_ren (hnew k i g1).1 z), (f.sim.zero k b g2).2⟩
    · intro i j b hi hj
      rcases key2 i b hi with ⟨i0, q, rfl, g1, g2⟩ | ⟨i', g1, g2⟩ <;> rcases key2 j b hj with ⟨j0, q', rfl, g3, g4⟩ | ⟨j', g3, g4⟩
      · exact hs.tinj _ _ b g2 g4
      · exact (hapart b (.inr ⟨i0, q, g1, g2⟩) (.inr ⟨j', g3⟩)).elim
      · exact (hapart b (.inr ⟨j0, q', g3, g4⟩) (.inr ⟨i', g1⟩)).elim
      · have := f.sim.tinj i' j' b g1 g3
        subst this
        rcases g2 with ⟨rfl, rfl⟩ | ⟨k, i0, q, p1, rfl, rfl⟩ <;> rcases g4 with ⟨p2, rfl⟩ | ⟨k', j0, q', p2, p3, rfl⟩
        · rfl
        · cases p3
        · cases p2
        · cases p3
          rw [p1] at p2; cases p2; rfl
    · intro i b o hi lv ho
      rcases key2 i b hi with ⟨i0, q, rfl, g1, g2⟩ | ⟨i', g1, g2⟩ <;> rcases hcase o b ho with ⟨g3, g4, g5⟩ | ⟨k, g3, g4⟩
      · exact hs.tobj _ b o g2 (live_eq g5 lv) g4
      · exact hapart b (.inr ⟨i0, q, g1, g2⟩) (.inl ⟨k, live_ren (hnew k o g3).1 lv, g4⟩)
      · exact hapart b (.inl ⟨o, live_eq g5 lv, g4, g3⟩) (.inr ⟨i', g1⟩)
      · exact f.sim.tobj i' b k g1 (live_ren (hnew k o g3).1 lv) g4
    · intro i b hi
      rcases key2 i b hi with ⟨i0, q, rfl, g1, g2⟩ | ⟨i', g1, g2⟩
      · exact Nat.lt_of_lt_of_le (hs.tlt _ b g2) f.ch.size
      · exact f.sim.tlt i' b g1
  · refine f.ch.mono (fun b _ q => ?_)
    rcases q with ⟨k, _, ql, q⟩ | ⟨i, q⟩
    · obtain ⟨i, h1, h2⟩ := (hφs k b).1 q
      exact .inl ⟨i, List.mem_of_getElem? h1, hlvs k i h1 ql, h2⟩
    · rcases key i b q with ⟨t, _, h1⟩ | ⟨k, i0, j, _, h0, h1⟩
      · exact .inr ⟨_, h1⟩
      · exact .inr ⟨_, h1⟩
  · intro b q
    have fin : Own φ' Hs' w' [x'] #[v] b → Own φ H w args vs b ∨ w.heap.size ≤ b := fun p => (f.own b p).imp (hownC b) id
    rcases q with ⟨i, ql, q⟩ | ⟨i, q⟩
    · rcases hcase i b q with ⟨g1, g2, g3⟩ | ⟨k, g1, g2⟩
      · exact .inl (.inl ⟨i, live_eq g3 ql, g2⟩)
      · exact fin (.inl ⟨k, live_ren (hnew k i g1).1 ql, g2⟩)
    · rcases key2 i b q with ⟨i0, j, rfl, g1, g2⟩ | ⟨i', g1, g2⟩
      · exact .inl (.inr ⟨_, g2⟩)
      · exact fin (.inr ⟨i', g1⟩)
  · intro o b q
    show φ2[o]? = some b
    simp only [φ2]; rw [List.getElem?_append_left (List.getElem?_eq_some_iff.1 q).1]; exact q
  · intro o r q
    show rowAt H2 o = some r
    have ho : o < H.length := by
      unfold rowAt at q
      split at q
      · rename_i h2; exact (List.getElem?_eq_some_iff.1 h2).1
      · cases q
    cases hp : posOf ids 0 o with
    | none =>
      have hn := posOf_none ids 0 o hp
      unfold rowAt at q ⊢
      rw [hset o ho, (setAll_get H ids _ o hnd (by simp; omega) hlt).1 hn]; exact q
    | some k =>
      have hk := posOf_get hp
      have hb : bk k = some o := by simp only [bk, backId]; rw [if_pos (List.getElem?_eq_some_iff.1 hk).1]; exact hk
      exact hrb k o r hb (f.rows k r (hrow o k r hp q))
end
end Go.Proofs.YtgefikclhfjcgaaDoorEv

namespace Go.Proofs.YtgefikclhfjcgaaDoorEv
open Go Go.RowKit
set_option linter.unusedVariables false
set_option linter.unusedSectionVars false
set_option linter.unusedSimpArgs false

section
variable {I : Nat → Type} {P : Program} {T : Ty I} {w w' : World} {E E' : Nat → Nat} {φ φ' : List Nat} {fr fr1 : Fr I} {H H' : Hp I} {tm : Array Value}

theorem callOK_ref {g : Nat} {ids : List Nat} {args args1 : List (X I)} {H1 Hr : Hp I} {x : X I} (hl : args1.length = args.length) (hH : H1.length = H.length)
    (ha : ∀ (j : Nat) y, args1[j]? = some y → ∃ x, args[j]? = some x ∧ RefX T H.length H H1 x y) (ho : ∀ (j : Nat) y, H1[j]? = some y → ∃ x, H[j]? = some x ∧ RefO T H.length x y)
    (h : CallOK P T g ids args1 H1 x Hr) : CallOK P T g ids args H x Hr := by
  intro φ E w vs hvs hs
  have htake : φ.take H.length = φ := List.take_of_length_le (by rw [hs.len]; exact Nat.le_refl _)
  have hrow := rows_ref (T := T) hH (Nat.le_refl _) ho
  obtain ⟨r1, r2, r3⟩ := refine_state hs (fr1 := args1) hH (Nat.le_refl _) ho (by rw [hl]; exact hs.flen) (fun t => by
    rcases Nat.lt_or_ge t args1.length with q | q
    · obtain ⟨x, h1, h2⟩ := ha t args1[t] (List.getElem?_eq_getElem q)
      right
      have e1 : Fr.get args1 t = args1[t] := by simp [Fr.get, List.getD_eq_getElem?_getD, List.getElem?_eq_getElem q]
      have e2 : Fr.get args t = x := by simp [Fr.get, List.getD_eq_getElem?_getD, h1]
      rw [e1, e2]; exact h2
    · exact .inl (get_ge args1 t q))
  rw [htake] at r1 r2
  have hown : ∀ b, Own φ H1 w args1 vs b → Own φ H w args vs b := fun b q => q.imp (fun ⟨o, l, p⟩ => ⟨o, r3 o (by have := (List.getElem?_eq_some_iff.1 p).1; rw [hs.len] at this; exact this) l, p⟩) (fun ⟨i, p⟩ => ⟨i, r2 i b p⟩)
  refine (h φ E w vs (by rw [hl]; exact hvs) r1).mono ?_
  rintro en w' ⟨v, φ', E', rfl, f⟩
  refine ⟨v, φ', E', rfl, { sim := f.sim, ch := f.ch.mono (fun b _ q => q.imp (fun ⟨o, z, l, p⟩ => ⟨o, z, r3 o (by have := (List.getElem?_eq_some_iff.1 p).1; rw [hs.len] at this; exact this) l, p⟩) (fun ⟨i, p⟩ => ⟨i, r2 i b p⟩)), own := fun b q => (f.own b q).imp (hown b) id, pre := f.pre, rows := fun o r q => f.rows o r (hrow o r ?_ q) }⟩
  unfold rowAt at q
  split at q
  · rename_i h2; exact (List.getElem?_eq_some_iff.1 h2).1
  · cases q

/-- A function's shape. 'src': which arguments the variables' addresses are. -/
structure Fs where
  g : Nat
  own : List Nat
  args : List SX
  heap : List SO
  res : SR
  hout : List SO
  src : List (Nat × Nat)

def objC : C I → Nat
  | .ptr o _ => o
  | .map o => o
  | _ => 0
def objOf (j : Nat) : X I → Nat
  | .y (.one c) => objC c
  | .y (.agg cs) => (match cs[j]? with | some c => objC c | none => 0)
  | .fn _ cs => (match cs[j]? with | some c => objC c | none => 0)
  | .rs o _ => o
  | .rp o _ _ _ => o
  | _ => 0
def Fs.ids (s : Fs) (xs : List (X I)) : List Nat := s.src.map fun j => objOf j.2 (Fr.get xs j.1)
def okIds (n : Nat) : List Nat → Bool
  | [] => true
  | i :: is => decide (i < n) && (!is.contains i && okIds n is)
theorem okIds_ok {n : Nat} : ∀ {ids : List Nat}, okIds n ids = true → ids.Nodup ∧ ∀ i ∈ ids, i < n
  | [], _ => ⟨List.nodup_nil, fun i h => by cases h⟩
  | i :: is, h => by
    simp only [okIds, Bool.and_eq_true, decide_eq_true_eq, Bool.not_eq_true'] at h
    obtain ⟨h1, h2⟩ := okIds_ok h.2.2
    refine ⟨List.nodup_cons.2 ⟨by simpa using h.2.1, h1⟩, fun j hj => ?_⟩
    rcases List.mem_cons.1 hj with rfl | hj
    · exact h.1
    · exact h2 j hj

variable {R : Type}
def Fs.call (s : Fs) (F : SXs.ty I s.args → SOs.ty I s.heap → Option (Out I s.res s.hout)) (xs : List (X I)) (H : Hp I) (K : X I → Hp I → Option R) : Option R :=
  if okIds H.length (s.ids xs) = true then
    match SXs.dec s.args (xs.map (renX (posOf (s.ids xs) 0))) with
    | some a =>
      (match SOs.dec s.heap (subH (s.ids xs) H) with
       | some b => (F a b).bind fun out => K (renX (backId (s.ids xs) H.length (s.ids xs).length (SOs.enc s.hout (outH s.res s.hout out)).length) (SR.enc s.res (outX s.res s.hout out))) (embH (s.ids xs) H (SOs.enc s.hout (outH s.res s.hout out)))
       | none => none)
    | none => none
  else none
def Fs.fits (s : Fs) : Bool := s.args.all (·.below s.heap.length) && (s.heap.all (·.below s.heap.length) && decide (s.src.length = s.heap.length))

/-- A function's Lean text says what a call of it comes to. -/
def Fs.Says (P : Program) (T : Ty I) (s : Fs) (F : SXs.ty I s.args → SOs.ty I s.heap → Option (Out I s.res s.hout)) : Prop :=
  ∀ a b out, F a b = some out → CallOK P T s.g (List.range s.heap.length) (SXs.enc s.args a) (SOs.enc s.heap b) (SR.enc s.res (outX s.res s.hout out)) (SOs.enc s.hout (outH s.res s.hout out))

theorem Fs.call_ok (hok : TyOK P T) {s : Fs} (hf : s.fits = true) {F : SXs.ty I s.args → SOs.ty I s.heap → Option (Out I s.res s.hout)} (hsays : s.Says P T F) {xs : List (X I)} {H : Hp I} {k : X I → Hp I → Option R} {out : R}
    (h : s.call F xs H k = some out) : ∃ x H', k x H' = some out ∧ CallOK P T s.g (s.ids xs) xs H x H' := by
  simp only [Fs.fits, Bool.and_eq_true, decide_eq_true_eq] at hf
  obtain ⟨f1, f2, f3⟩ := hf
  unfold Fs.call at h
  split at h
  · rename_i hids
    obtain ⟨hnd, hlt⟩ := okIds_ok hids
    split at h
    · rename_i a ha
      split at h
      · rename_i b hb
        cases hF : F a b with
        | none => rw [hF] at h; cases h
        | some r =>
          rw [hF] at h
          refine ⟨_, _, h, embed_ok hok hnd hlt ?_⟩
          have hlen : (subH (s.ids xs) H).length = s.heap.length := by simp [subH, Fs.ids, f3]
          have hil : (s.ids xs).length = s.heap.length := by simp [Fs.ids, f3]
          obtain ⟨k1, k2, k3⟩ := SOs.ref (T := T) (n := s.heap.length) f2 hb
          have hrow := rows_ref (T := T) k1 k2 k3
          obtain ⟨g1, g2⟩ := SXs.ref (T := T) hrow f1 ha
          have := hsays a b r hF
          rw [hil]
          refine callOK_ref (T := T) (args1 := SXs.enc s.args a) (H1 := SOs.enc s.heap b) g1 (by rw [k1, hlen]) ?_ ?_ this
          · rw [hlen]; exact g2
          · rw [hlen]; exact k3
      · cases h
    · cases h
  · cases h

/-- What is called, as the ways need it. -/
structure CE (I : Nat → Type) (R : Type) where
  g : Nat
  ent : Ent I
  call : List (X I) → Hp I → (X I → Hp I → Option R) → Option R
def Fs.ce (s : Fs) (F : SXs.ty I s.args → SOs.ty I s.heap → Option (Out I s.res s.hout)) : CE I R := ⟨s.g, ⟨s.own, s.ids, s.src.isEmpty && (s.heap.isEmpty && s.hout.isEmpty)⟩, s.call F⟩
def fnOfs (l : List (CE I R)) (g : Nat) : Option (Ent I) := (l.find? fun c => c.g == g).map CE.ent
def callOfs (l : List (CE I R)) (g : Nat) (xs : List (X I)) (H : Hp I) (K : X I → Hp I → Option R) : Option R := match l.find? fun c => c.g == g with | some c => c.call xs H K | none => none
def CE.Det (c : CE I R) : Prop :=
  (∀ xs H, (∀ K, c.call xs H K = none) ∨ ∃ x H', (∀ K, c.call xs H K = K x H') ∧ (∀ o, o < H.length → o ∉ c.ent.ids xs → H'[o]? = H[o]?) ∧ H.length ≤ H'.length) ∧
  (c.ent.pure = true → ∀ xs, (∀ H K, c.call xs H K = none) ∨ ∃ x, ∀ H K, c.call xs H K = K x H) ∧
  (R → ∀ xs H1 H2, H1.length = H2.length → (∀ o ∈ c.ent.ids xs, H2[o]? = H1[o]?) → ∀ x H1', (∀ K, c.call xs H1 K = K x H1') →
    ∃ H2', (∀ K, c.call xs H2 K = K x H2') ∧ H2'.length = H1'.length ∧ (∀ o, (o ∈ c.ent.ids xs ∨ H1.length ≤ o) → H2'[o]? = H1'[o]?) ∧ ∀ o, o < H1.length → o ∉ c.ent.ids xs → H2'[o]? = H2[o]?)
def CE.OK (P : Program) (T : Ty I) (c : CE I R) : Prop := c.Det ∧ Enters P c.g ∧ ∀ xs H k out, c.call xs H k = some out → ∃ x H', k x H' = some out ∧ CallOK P T c.g (c.ent.ids xs) xs H x H'

theorem setAll_get_ne {o : Nat} : ∀ (ids : List Nat) (H Hs : Hp I), o ∉ ids → (setAll H ids Hs)[o]? = H[o]?
  | [], H, Hs, _ => rfl
  | i :: is, H, [], _ => rfl
  | i :: is, H, x :: Hs, h => by
    simp only [List.mem_cons, not_or] at h
    show ((setAll H is Hs).set i x)[o]? = _
    rw [List.getElem?_set_ne (Ne.symm h.1)]
    exact setAll_get_ne is H Hs h.2

theorem setAll_same : ∀ (ids : List Nat) (Hs H2 H1 : Hp I) (o : Nat), H2.length = H1.length → (True → H2[o]? = H1[o]?) → (setAll H2 ids Hs)[o]? = (setAll H1 ids Hs)[o]?
  | [], Hs, H2, H1, o, _, h => by cases Hs <;> exact h trivial
  | i :: is, [], H2, H1, o, _, h => h trivial
  | i :: is, x :: Hs, H2, H1, o, hl, h => by
    show ((setAll H2 is Hs).set i x)[o]? = ((setAll H1 is Hs).set i x)[o]?
    have ih := setAll_same is Hs H2 H1 o hl h
    rw [List.getElem?_set, List.getElem?_set, ih, setAll_length, setAll_length, hl]

theorem embH_keeps (ids : List Nat) (H Hs : Hp I) : (∀ o, o < H.length → o ∉ ids → (embH ids H Hs)[o]? = H[o]?) ∧ H.length ≤ (embH ids H Hs).length := by
  unfold embH
  refine ⟨fun o ho hi => ?_, ?_⟩
  · rw [List.getElem?_append_left (by rw [setAll_length]; exact ho)]
    exact setAll_get_ne ids H _ hi
  · rw [List.length_append, setAll_length]; omega

theorem Fs.ce_det {s : Fs} {F : SXs.ty I s.args → SOs.ty I s.heap → Option (Out I s.res s.hout)} : (s.ce F : CE I R).Det := by
  refine ⟨fun xs H => ?_, fun hp xs => ?_, fun out xs H1 H2 hlen hids x H1' h => ?_⟩
  · show (∀ K, s.call F xs H K = none) ∨ ∃ x H', (∀ K, s.call F xs H K = K x H') ∧ (∀ o, o < H.length → o ∉ s.ids xs → H'[o]? = H[o]?) ∧ H.length ≤ H'.length
    unfold Fs.call
    by_cases h1 : okIds H.length (s.ids xs) = true
    · simp only [h1, if_true]
      cases h2 : SXs.dec s.args (xs.map (renX (posOf (s.ids xs) 0))) with
      | none => exact .inl fun K => rfl
      | some a =>
        cases h3 : SOs.dec s.heap (subH (s.ids xs) H) with
        | none => exact .inl fun K => rfl
        | some b =>
          cases h4 : F a b with
          | none => refine .inl fun K => ?_; simp only [h4]; rfl
          | some out =>
            refine .inr ⟨renX (backId (s.ids xs) H.length (s.ids xs).length (SOs.enc s.hout (outH s.res s.hout out)).length) (SR.enc s.res (outX s.res s.hout out)), embH (s.ids xs) H (SOs.enc s.hout (outH s.res s.hout out)), fun K => ?_, (embH_keeps _ _ _).1, (embH_keeps _ _ _).2⟩
            simp only [h4]; rfl
    · exact .inl fun K => by simp only [h1]; rfl
  · show (∀ H K, s.call F xs H K = none) ∨ ∃ x, ∀ H K, s.call F xs H K = K x H
    obtain ⟨g, own, args, heap, res, hout, src⟩ := s
    have hp : (src.isEmpty && (heap.isEmpty && hout.isEmpty)) = true := hp
    simp only [Bool.and_eq_true, List.isEmpty_iff] at hp
    obtain ⟨rfl, rfl, rfl⟩ := hp
    have key : ∀ H K, Fs.call (I := I) (R := R) { g := g, own := own, args := args, heap := [], res := res, hout := [], src := [] } F xs H K =
        (match SXs.dec args (xs.map (renX fun _ => none)) with
         | some a => (F a ()).bind fun out => K (renX (fun _ => none) (SR.enc res (outX res [] out))) H
         | none => none) := by
      intro H K
      have hb : backId [] H.length 0 0 = fun _ => none := by funext k; simp [backId]
      have hpos : posOf [] 0 = fun _ => none := by funext k; rfl
      unfold Fs.call
      simp only [Fs.ids, List.map_nil, okIds, if_true, hpos]
      cases SXs.dec args (xs.map (renX fun _ => none)) with
      | none => rfl
      | some a =>
        show (F a ()).bind _ = (F a ()).bind _
        congr 1
        funext out
        show K (renX (backId [] H.length 0 0) _) (setAll H [] [] ++ []) = _
        rw [hb]
        simp [setAll]
    cases h2 : SXs.dec args (xs.map (renX fun _ => none)) with
    | none => exact .inl fun H K => by rw [key, h2]
    | some a =>
      cases h4 : F a () with
      | none => exact .inl fun H K => by rw [key, h2]; simp only [h4]; rfl
      | some out => exact .inr ⟨renX (fun _ => none) (SR.enc res (outX res [] out)), fun H K => by rw [key, h2]; simp only [h4]; rfl⟩
  · show ∃ H2', (∀ K, s.call F xs H2 K = K x H2') ∧ H2'.length = H1'.length ∧ (∀ o, (o ∈ s.ids xs ∨ H1.length ≤ o) → H2'[o]? = H1'[o]?) ∧ ∀ o, o < H1.length → o ∉ s.ids xs → H2'[o]? = H2[o]?
    have h : ∀ K, s.call F xs H1 K = K x H1' := h
    have hids : ∀ o ∈ s.ids xs, H2[o]? = H1[o]? := hids
    have hsub : subH (s.ids xs) H2 = subH (s.ids xs) H1 := by
      unfold subH
      exact List.map_congr_left fun o ho => by rw [hids o ho]
    unfold Fs.call at h ⊢
    rw [← hlen, hsub]
    by_cases h1 : okIds H1.length (s.ids xs) = true
    · obtain ⟨hnd, hlt⟩ := okIds_ok h1
      simp only [h1, if_true] at h ⊢
      cases h2 : SXs.dec s.args (xs.map (renX (posOf (s.ids xs) 0))) with
      | none => have := h (fun _ _ => some out); simp only [h2] at this; cases this
      | some a =>
        cases h3 : SOs.dec s.heap (subH (s.ids xs) H1) with
        | none => have := h (fun _ _ => some out); simp only [h2, h3] at this; cases this
        | some b =>
          cases h4 : F a b with
          | none => have := h (fun _ _ => some out); simp only [h2, h3, h4] at this; cases this
          | some r =>
            have hx : (renX (backId (s.ids xs) H1.length (s.ids xs).length (SOs.enc s.hout (outH s.res s.hout r)).length) (SR.enc s.res (outX s.res s.hout r)), embH (s.ids xs) H1 (SOs.enc s.hout (outH s.res s.hout r))) = (x, H1') := by
              classical
              have := h (fun a c => if (a, c) = (x, H1') then some out else none)
              simp only [h2, h3, h4, Option.bind_some, if_true] at this
              split at this
              · rename_i e; exact e
              · cases this
            obtain ⟨rfl, rfl⟩ := Prod.mk.inj hx
            have hHs : (SOs.enc s.hout (outH s.res s.hout r)).length = s.hout.length := SOs.enc_length _
            refine ⟨embH (s.ids xs) H2 (SOs.enc s.hout (outH s.res s.hout r)), fun K => by simp only [h4]; rfl, ?_, fun o ho => ?_, fun o ho hn => (embH_keeps _ _ _).1 o (hlen ▸ ho) hn⟩
            · simp only [embH, List.length_append, setAll_length, List.length_drop, List.length_map, hlen]
            · rcases ho with ho | ho
              · have hol := hlt o ho
                unfold embH
                rw [← hlen]
                rw [List.getElem?_append_left (by rw [setAll_length, ← hlen]; exact hol), List.getElem?_append_left (by rw [setAll_length]; exact hol)]
                exact setAll_same (s.ids xs) _ H2 H1 o hlen.symm (fun q => hids o ho)
              · unfold embH
                rw [← hlen, List.getElem?_append_right (by rw [setAll_length, ← hlen]; exact ho), List.getElem?_append_right (by rw [setAll_length]; exact ho), setAll_length, setAll_length, hlen]
    · have := h (fun _ _ => some out); simp only [h1] at this; cases this

theorem Fs.call_form {s : Fs} {F : SXs.ty I s.args → SOs.ty I s.heap → Option (Out I s.res s.hout)} (xs : List (X I)) (H : Hp I) :
    (∀ K : X I → Hp I → Option R, s.call F xs H K = none) ∨ ∃ x, ∃ Hs, (∀ K : X I → Hp I → Option R, s.call F xs H K = K x (embH (s.ids xs) H Hs)) := by
  unfold Fs.call
  by_cases h1 : okIds H.length (s.ids xs) = true
  · simp only [h1, if_true]
    cases h2 : SXs.dec s.args (xs.map (renX (posOf (s.ids xs) 0))) with
    | none => exact .inl fun K => rfl
    | some a =>
      cases h3 : SOs.dec s.heap (subH (s.ids xs) H) with
      | none => exact .inl fun K => rfl
      | some b =>
        cases h4 : F a b with
        | none => refine .inl fun K => ?_; simp only [h4]; rfl
        | some out => exact .inr ⟨renX (backId (s.ids xs) H.length (s.ids xs).length (SOs.enc s.hout (outH s.res s.hout out)).length) (SR.enc s.res (outX s.res s.hout out)), SOs.enc s.hout (outH s.res s.hout out), fun K => by simp only [h4]; rfl⟩
  · exact .inl fun K => by simp only [h1]; rfl

theorem Fs.ce_ok (hok : TyOK P T) {s : Fs} (hf : s.fits = true) (he : Enters P s.g) {F : SXs.ty I s.args → SOs.ty I s.heap → Option (Out I s.res s.hout)} (hsays : s.Says P T F) : (s.ce F : CE I R).OK P T :=
  ⟨Fs.ce_det, he, fun xs H k out h => Fs.call_ok hok hf hsays h⟩

theorem env_ok {env : Env I R} {l : List (CE I R)} (hl : ∀ c ∈ l, c.OK P T) (h1 : env.fn = fnOfs l) (h2 : env.call = callOfs l) : EnvOK P T env := by
  refine ⟨fun g e h => ?_, fun g e args H k out he h => ?_⟩
  · rw [h1] at h
    unfold fnOfs at h
    obtain ⟨c, hc, _⟩ := Option.map_eq_some_iff.1 h
    have := hl c (List.mem_of_find?_eq_some hc)
    have hg := List.find?_some hc
    simp at hg
    exact hg ▸ this.2.1
  · rw [h1] at he
    rw [h2] at h
    unfold fnOfs at he
    unfold callOfs at h
    obtain ⟨c, hc, rfl⟩ := Option.map_eq_some_iff.1 he
    rw [hc] at h
    have := hl c (List.mem_of_find?_eq_some hc)
    have hg := List.find?_some hc
    simp at hg
    subst hg
    exact this.2.2 args H k out h

theorem env_det {env : Env I R} {l : List (CE I R)} (hl : ∀ c ∈ l, c.OK P T) (h1 : env.fn = fnOfs l) (h2 : env.call = callOfs l) : EnvDet env := by
  have key : ∀ g e, env.fn g = some e → ∃ c ∈ l, e = c.ent ∧ env.call g = c.call := fun g e h => by
    rw [h1] at h
    unfold fnOfs at h
    obtain ⟨c, hc, rfl⟩ := Option.map_eq_some_iff.1 h
    refine ⟨c, List.mem_of_find?_eq_some hc, rfl, ?_⟩
    rw [h2]
    funext xs H K
    simp only [callOfs, hc]
  refine ⟨fun g e xs H h => ?_, fun out g e xs H1 H2 h hl1 hl2 x H1' hc1 => ?_, fun g e xs h hp => ?_⟩
  · obtain ⟨c, hc, rfl, h3⟩ := key g e h
    rw [h3]; exact (hl c hc).1.1 xs H
  · obtain ⟨c, hc, rfl, h3⟩ := key g e h
    rw [h3] at hc1 ⊢; exact (hl c hc).1.2.2 out xs H1 H2 hl1 hl2 x H1' hc1
  · obtain ⟨c, hc, rfl, h3⟩ := key g e h
    rw [h3]; exact (hl c hc).1.2.1 hp xs

theorem enters_of {g : Nat} {fn : Func} (h : P.funcs[g]? = some fn) (h2 : (decide (fn.name ≠ "runtime.NumGoroutine") && fn.body.isSome) = true) : Enters P g := by
  simp only [Bool.and_eq_true, decide_eq_true_eq] at h2
  exact ⟨fn, h, h2.1, h2.2⟩

/-- What a function's ways need, made of its parts. -/
def mkEnv (res : SR) (hout : List SO) (N : Nat) (cuts : List (Cut I (Out I res hout))) (tk : List (Nat × Nat)) (plan : Nat → List Nat) (keep : Nat → List (Nat × Nat)) (ces : List (CE I (Out I res hout))) (n : Nat) (nh : Nat := 0) (frz : Nat → List (Nat × Nat) := fun _ => []) (frzR : List (Nat × Nat) := []) : Env I (Out I res hout) :=
  { fn := fnOfs ces, call := callOfs ces, cut := cutOf cuts N n, tk := tk, plan := plan, keep := keep, fin := finOf res hout, nh := nh, frz := frz, frzR := frzR }

/-- A function is its Lean text. -/
theorem says_of (hok : TyOK P T) {s : Fs} {fn : Func} {root : Code} (hf : P.funcs[s.g]? = some fn) (hbody : fn.body = some root) (hdr : P.follows .mixedOrders = true)
    {cuts : List (Cut I (Out I s.res s.hout))} {tk : List (Nat × Nat)} {plan : Nat → List Nat} {keep : Nat → List (Nat × Nat)} {frz : Nat → List (Nat × Nat)} {frzR : List (Nat × Nat)} {ces : Nat → List (CE I (Out I s.res s.hout))} {F : Nat → SXs.ty I s.args → SOs.ty I s.heap → Option (Out I s.res s.hout)}
    (hstat : Go.Proofs.YtgefikclhfjcgaaDoorEv.fits s.heap s.res s.hout cuts = true) (hzero : ∀ c ∈ cuts, ∀ a b, c.F 0 a b = none)
    (hstep : ∀ c ∈ cuts, ∀ n a b, ∃ m, c.go P T fn (mkEnv s.res s.hout fn.ntmps cuts tk plan keep (ces n) n s.heap.length frz frzR) m a b = c.F (n + 1) a b)
    (hmain : ∀ n a b, ∃ m, mainGo P T fn (mkEnv s.res s.hout fn.ntmps cuts tk plan keep (ces n) n s.heap.length frz frzR) m s.args s.heap a b = F n a b)
    (hces : ∀ n, ∀ c ∈ ces n, c.OK P T) (n : Nat) : s.Says P T (F n) := fun a b out h =>
  fn_ok hok hf hbody (args := s.args) (heap := s.heap) (cuts := cuts) (env := fun n => mkEnv s.res s.hout fn.ntmps cuts tk plan keep (ces n) n s.heap.length frz frzR) (F := F)
    ⟨fun _ => rfl, fun _ => rfl, hstat, hzero, hstep, hmain⟩ hdr n (fun j _ => env_ok (hces j) rfl rfl) (fun j _ => env_det (hces j) rfl rfl) (fun _ => Nat.le_refl _) a b out h

/-- A function that calls itself is its Lean text. -/
theorem says_rec (hok : TyOK P T) {s : Fs} {fn : Func} {root : Code} (hf : P.funcs[s.g]? = some fn) (hbody : fn.body = some root) (hdr : P.follows .mixedOrders = true)
    {cuts : List (Cut I (Out I s.res s.hout))} {tk : List (Nat × Nat)} {plan : Nat → List Nat} {keep : Nat → List (Nat × Nat)} {frz : Nat → List (Nat × Nat)} {frzR : List (Nat × Nat)} {ces : Nat → List (CE I (Out I s.res s.hout))} {F : Nat → SXs.ty I s.args → SOs.ty I s.heap → Option (Out I s.res s.hout)}
    (hstat : Go.Proofs.YtgefikclhfjcgaaDoorEv.fits s.heap s.res s.hout cuts = true) (hzero : ∀ c ∈ cuts, ∀ a b, c.F 0 a b = none)
    (hstep : ∀ c ∈ cuts, ∀ n a b, ∃ m, c.go P T fn (mkEnv s.res s.hout fn.ntmps cuts tk plan keep (ces n) n s.heap.length frz frzR) m a b = c.F (n + 1) a b)
    (hF : ∀ a b, F 0 a b = none) (hmain : ∀ n a b, ∃ m, mainGo P T fn (mkEnv s.res s.hout fn.ntmps cuts tk plan keep (ces n) n s.heap.length frz frzR) m s.args s.heap a b = F (n + 1) a b)
    (hces : ∀ n, s.Says P T (F n) → ∀ c ∈ ces n, c.OK P T) (n : Nat) : s.Says P T (F n) := by
  induction n using Nat.strongRecOn with
  | _ n ih =>
    cases n with
    | zero => intro a b out h; rw [hF] at h; cases h
    | succ n =>
      intro a b out h
      exact fn_ok hok hf hbody (args := s.args) (heap := s.heap) (cuts := cuts) (env := fun n => mkEnv s.res s.hout fn.ntmps cuts tk plan keep (ces n) n s.heap.length frz frzR) (F := fun n => F (n + 1))
        ⟨fun _ => rfl, fun _ => rfl, hstat, hzero, hstep, hmain⟩ hdr n (fun j hj => env_ok (hces j (ih j (by omega))) rfl rfl) (fun j hj => env_det (hces j (ih j (by omega))) rfl rfl) (fun _ => Nat.le_refl _) a b out h
end
end Go.Proofs.YtgefikclhfjcgaaDoorEv

namespace Go.Proofs.YtgefikclhfjcgaaDoorEv
open Go Go.RowKit
set_option linter.unusedVariables false
set_option linter.unusedSectionVars false
set_option linter.unusedSimpArgs false

/-- An element's cells and how they are read. -/
structure Ed (I : Nat → Type) (e : Nat) where
  shs : List Sh
  to : I e → Shs.ty I shs
  fro : Shs.ty I shs → I e

section
variable {I : Nat → Type}
def Sh.plain : Sh → Bool
  | .int _ => true
  | .bool => true
  | .str => true
  | .sl _ => true
  | _ => false
def edSz (P : Program) (D : (e : Nat) → Option (Ed I e)) (e : Nat) : Nat := match D e with | some d => d.shs.length | none => ((P.info? e).map (·.size)).getD 0
def edCells (P : Program) (D : (e : Nat) → Option (Ed I e)) (e : Nat) (x : I e) : List (C I) := match D e with | some d => Shs.enc d.shs (d.to x) | none => List.replicate (((P.info? e).map (·.size)).getD 0) .dead
def edOf (D : (e : Nat) → Option (Ed I e)) (e : Nat) (cs : List (C I)) : Option (I e) := match D e with | some d => if cs.all C.data then (Shs.dec d.shs cs).map d.fro else none | none => none
def tyOf (P : Program) (D : (e : Nat) → Option (Ed I e)) (dft : (e : Nat) → I e) (glob : Nat → Option (X I)) (u8 : (e : Nat) → Option ((List Int → List (I e)) × (List (I e) → List Int))) : Ty I :=
  { sz := edSz P D, cells := edCells P D, of := edOf D, dft := dft, glob := glob, u8 := u8 }

theorem Shs.enc_length : ∀ {l : List Sh} (z : Shs.ty I l), (Shs.enc l z).length = l.length
  | [], _ => rfl
  | [s], z => rfl
  | s :: t :: l, z => by
    show (s.enc z.1 :: Shs.enc (t :: l) z.2).length = _
    simp only [List.length_cons]
    have := Shs.enc_length (l := t :: l) z.2
    simpa using this
theorem Shs.dec_length : ∀ {l : List Sh} {cs : List (C I)} {z : Shs.ty I l}, Shs.dec l cs = some z → cs.length = l.length
  | [], [], _, _ => rfl
  | [s], [c], _, _ => rfl
  | s :: t :: ss, c :: cs, x, h => by
    replace h : (match s.dec c with | some x => (match Shs.dec (t :: ss) cs with | some y => some (x, y) | none => none) | none => none) = some x := h
    split at h
    · split at h
      · rename_i y1 h2
        have := Shs.dec_length h2
        simp at this ⊢; omega
      · cases h
    · cases h
  | [], _ :: _, _, h => by cases h
  | [s], [], _, h => by cases h
  | [s], _ :: _ :: _, _, h => by cases h
  | _ :: _ :: _, [], _, h => by cases h

theorem Sh.dec_rep {T : Ty I} {s : Sh} {c : C I} {z : s.ty I} (hp : s.plain = true) (hd : c.data = true) (h : s.dec c = some z) (w : World) (E : Nat → Nat) (v : Value) (hr : RepC T w E v c) : RepC T w E v (s.enc z) := by
  have h1 : RefC T 0 c (s.enc z) := Sh.ref (by cases s <;> first | rfl | cases hp) h
  have h2 := h1.1 [] w E v (RepC.toT (φ := []) hr)
  cases s <;> first | exact h2 | cases hp

theorem Shs.dec_rep {T : Ty I} : ∀ {l : List Sh} {cs : List (C I)} {z : Shs.ty I l}, l.all Sh.plain = true → cs.all C.data = true → Shs.dec l cs = some z → ∀ (j : Nat) c, cs[j]? = some c → ∃ d, (Shs.enc l z)[j]? = some d ∧ ∀ w E v, RepC T w E v c → RepC T w E v d
  | [], [], _, _, _, _ => fun j c h => by simp at h
  | [s], [c], z, hp, hd, h => fun j c' hj => by
    replace h : s.dec c = some z := h
    cases j with
    | succ j => simp at hj
    | zero =>
      simp at hj; subst hj
      exact ⟨s.enc z, rfl, fun w E v q => Sh.dec_rep (by simpa using hp) (by simpa using hd) h w E v q⟩
  | s :: t :: ss, c :: cs, x, hp, hd, h => fun j c' hj => by
    replace h : (match s.dec c with | some x => (match Shs.dec (t :: ss) cs with | some y => some (x, y) | none => none) | none => none) = some x := h
    split at h
    · rename_i x1 h1
      split at h
      · rename_i y1 h2
        cases h
        simp only [List.all_cons, Bool.and_eq_true] at hp hd
        cases j with
        | zero =>
          simp at hj; subst hj
          exact ⟨s.enc x1, rfl, fun w E v q => Sh.dec_rep hp.1 hd.1 h1 w E v q⟩
        | succ j =>
          obtain ⟨d, g1, g2⟩ := Shs.dec_rep (T := T) (l := t :: ss) (by simpa using hp.2) hd.2 h2 j c' (by simpa using hj)
          exact ⟨d, g1, g2⟩
      · cases h
    · cases h
  | [], _ :: _, _, _, _, h => by cases h
  | [s], [], _, _, _, h => by cases h
  | [s], _ :: _ :: _, _, _, _, h => by cases h
  | _ :: _ :: _, [], _, _, _, h => by cases h

/-- The table is right. -/
structure EdOK (P : Program) (D : (e : Nat) → Option (Ed I e)) (u8 : (e : Nat) → Option ((List Int → List (I e)) × (List (I e) → List Int))) : Prop where
  sz : ∀ e d, D e = some d → (d.shs.all Sh.plain && decide (d.shs.length = ((P.info? e).map (·.size)).getD 0)) = true
  fro : ∀ e d z, D e = some d → d.to (d.fro z) = z
  u8 : ∀ e q, u8 e = some q → (∀ l, (q.1 l).length = l.length ∧ ∀ (i : Nat) n, l[i]? = some n → ∃ x, (q.1 l)[i]? = some x ∧ edCells P D e x = [.int .u8 n]) ∧
    (∀ l, (q.2 l).length = l.length ∧ ∀ (i : Nat) x, l[i]? = some x → ∃ n, (q.2 l)[i]? = some n ∧ edCells P D e x = [.int .u8 n])

theorem Shs.dec_one {c : C I} : ∀ {l : List Sh} {z : Shs.ty I l}, Shs.dec l [c] = some z → ∃ s : Sh, ∃ zz : s.ty I, s.dec c = some zz ∧ Shs.enc l z = [s.enc zz]
  | [s], z, h => ⟨s, z, h, rfl⟩
  | [], _, h => by cases h
  | s :: t :: ss, x, h => by
    replace h : (match s.dec c with | some x => (match Shs.dec (t :: ss) [] with | some y => some (x, y) | none => none) | none => none) = some x := h
    split at h
    · split at h
      · rename_i h2; cases ss <;> cases h2
      · cases h
    · cases h
theorem Sh.dec_key {s : Sh} {c : C I} {z : s.ty I} {kd : Kd} (h : s.dec c = some z) (hk : isKd kd c = true) : s.enc z = c := by
  cases kd <;> cases c <;> first | (cases hk; done) | skip
  · cases s <;> first | (cases h; done) | skip
    rename_i q n q'
    replace h : (if q' = q then some n else none) = some z := h
    split at h
    · rename_i e; cases h; subst e; rfl
    · cases h
  · cases s <;> first | (cases h; done) | skip
    replace h : some _ = some z := h
    cases h; rfl
theorem tyOf_ok {P : Program} {D : (e : Nat) → Option (Ed I e)} {dft : (e : Nat) → I e} {glob : Nat → Option (X I)} {u8 : (e : Nat) → Option ((List Int → List (I e)) × (List (I e) → List Int))} (h : EdOK P D u8) : TyOK P (tyOf P D dft glob u8) where
  sz e := by
    show edSz P D e = _
    unfold edSz
    cases hd : D e with
    | none => rfl
    | some d => have := h.sz e d hd; simp only [Bool.and_eq_true, decide_eq_true_eq] at this; exact this.2
  len e x := by
    show (edCells P D e x).length = edSz P D e
    unfold edCells edSz
    cases hd : D e with
    | none => simp
    | some d => exact Shs.enc_length _
  of e cs x hx := by
    replace hx : edOf D e cs = some x := hx
    show cs.length = edSz P D e ∧ ∀ (j : Nat) c, cs[j]? = some c → c.data = true ∧ ∃ d, (edCells P D e x)[j]? = some d ∧ _
    unfold edOf at hx
    unfold edCells edSz
    cases hd : D e with
    | none => rw [hd] at hx; cases hx
    | some d =>
      rw [hd] at hx
      simp only at hx
      split at hx
      · rename_i hall
        obtain ⟨z, hz, rfl⟩ := Option.map_eq_some_iff.1 hx
        have h1 := h.sz e d hd
        simp only [Bool.and_eq_true] at h1
        refine ⟨Shs.dec_length hz, fun j c hc => ⟨List.all_eq_true.1 hall c (List.mem_of_getElem? hc), ?_⟩⟩
        simp only [h.fro e d z hd]
        exact Shs.dec_rep h1.1 hall hz j c hc
      · cases hx
  key e kd c x hx hk := by
    replace hx : edOf D e [c] = some x := hx
    show edCells P D e x = [c]
    unfold edOf at hx
    unfold edCells
    cases hd : D e with
    | none => rw [hd] at hx; cases hx
    | some d =>
      rw [hd] at hx
      simp only at hx
      split at hx
      · obtain ⟨z, hz, rfl⟩ := Option.map_eq_some_iff.1 hx
        obtain ⟨s, zz, h1, h2⟩ := Shs.dec_one hz
        simp only [h.fro e d z hd, h2, Sh.dec_key h1 hk]
      · cases hx
  u8 := h.u8
end
end Go.Proofs.YtgefikclhfjcgaaDoorEv

namespace Go.Proofs.YtgefikclhfjcgaaDoorEv
open Go Go.RowKit Go.WideShapes
set_option linter.unusedVariables false
set_option linter.unusedSectionVars false
set_option linter.unusedSimpArgs false

/-- What nobody writes, when the call begins: all of it. -/
def E0 (w : World) (N b : Nat) : Nat := if b < w.heap.size then N else 0

section
variable {I : Nat → Type}

/-- What can be told of whatever was read. -/
inductive OkC (T : Ty I) : C I → Prop
  | int {k : IntKind} {n : Int} : (Lit.int k n).wf = true → OkC T (.int k n)
  | bool (b : Bo) : OkC T (.bool b)
  | str {s : ByteArray} : s.size ≤ reachBytes → OkC T (.str s)
  | sl {e : Nat} {l : List (I e)} : l.length ≤ reachBytes → (∀ x ∈ l, ∀ c ∈ T.cells e x, OkC T c) → OkC T (.sl e l)
theorem OkC.int_inv {T : Ty I} {k : IntKind} {n : Int} (h : OkC T (.int k n)) : (Lit.int k n).wf = true := by cases h; assumption
theorem OkC.str_inv {T : Ty I} {s : ByteArray} (h : OkC T (.str s)) : s.size ≤ reachBytes := by cases h; assumption
theorem OkC.sl_inv {T : Ty I} {e : Nat} {l : List (I e)} (h : OkC T (.sl e l)) : l.length ≤ reachBytes ∧ ∀ x ∈ l, ∀ c ∈ T.cells e x, OkC T c := by cases h; exact ⟨by assumption, by assumption⟩

def Sh.same : Sh → Sh → Bool
  | .int k, .int k' => decide (k = k')
  | .bool, .bool => true
  | .str, .str => true
  | .sl e, .sl e' => decide (e = e')
  | _, _ => false
def Shs.same : List Sh → List Sh → Bool
  | [], [] => true
  | a :: as, b :: bs => a.same b && Shs.same as bs
  | _, _ => false
theorem Sh.same_eq {a b : Sh} (h : a.same b = true) : a = b := by
  cases a <;> cases b <;> simp_all [Sh.same]
theorem Shs.same_eq : ∀ {a b : List Sh}, Shs.same a b = true → a = b
  | [], [], _ => rfl
  | a :: as, b :: bs, h => by
    simp only [Shs.same, Bool.and_eq_true] at h
    rw [Sh.same_eq h.1, Shs.same_eq h.2]
  | [], _ :: _, h => by cases h
  | _ :: _, [], h => by cases h

def fieldsSh (f : TypeId → Option (List Sh)) (P : Program) : Nat → List Field → Option (List Sh)
  | _, [] => some []
  | off, fd :: fds => match f fd.type with
    | some l => if (decide (fd.offset = off) && decide (P.cellsOf fd.type = l.length)) = true then (fieldsSh f P (off + l.length) fds).map (l ++ ·) else none
    | none => none
/-- The shape of a type's cells. -/
def shOf (P : Program) (D : (e : Nat) → Option (Ed I e)) : Nat → TypeId → Option (List Sh)
  | 0, _ => none
  | n + 1, t => match P.underlying t with
    | some (.int k) => some [.int k]
    | some .bool => some [.bool]
    | some .string => some [.str]
    | some (.slice e) => (match D e, shOf P D n e with
      | some d, some l => if (Shs.same d.shs l && (decide (P.cellsOf e = l.length) && (decide (0 < l.length) && decide (0 < P.bytesOf e)))) = true then some [.sl e] else none
      | _, _ => none)
    | some (.struct fs) => (match fieldsSh (shOf P D n) P 0 fs.toList with | some l => if decide (P.cellsOf t = l.length) = true then some l else none | none => none)
    | _ => none

/-- A cell as it is read at its shape. -/
structure OpenC (T : Ty I) (W : World) (N : Nat) (v : Value) (s : Sh) (c : C I) : Prop where
  rep : ∀ M, N ≤ M → RepC T W (E0 W M) v c
  dec : ∃ z, s.dec c = some z ∧ s.enc z = c
  ok : OkC T c
  data : c.data = true

theorem OpenC.mono {T : Ty I} {W : World} {N N' : Nat} {v : Value} {s : Sh} {c : C I} (h : OpenC T W N v s c) (hN : N ≤ N') : OpenC T W N' v s c :=
  ⟨fun M hM => h.rep M (Nat.le_trans hN hM), h.dec, h.ok, h.data⟩

/-- Cells as they are read. -/
def OpenL (T : Ty I) (W : World) (N : Nat) (vs : List Value) (l : List Sh) (cc : List (C I)) : Prop :=
  vs.length = l.length ∧ cc.length = l.length ∧ ∀ (j : Nat) v s c, vs[j]? = some v → l[j]? = some s → cc[j]? = some c → OpenC T W N v s c

theorem OpenL.mono {T : Ty I} {W : World} {N N' : Nat} {vs : List Value} {l : List Sh} {cc : List (C I)} (h : OpenL T W N vs l cc) (hN : N ≤ N') : OpenL T W N' vs l cc :=
  ⟨h.1, h.2.1, fun j v s c h1 h2 h3 => (h.2.2 j v s c h1 h2 h3).mono hN⟩

theorem OpenL.append {T : Ty I} {W : World} {N : Nat} {v1 v2 : List Value} {l1 l2 : List Sh} {c1 c2 : List (C I)} (h1 : OpenL T W N v1 l1 c1) (h2 : OpenL T W N v2 l2 c2) : OpenL T W N (v1 ++ v2) (l1 ++ l2) (c1 ++ c2) := by
  obtain ⟨a1, a2, a3⟩ := h1
  obtain ⟨b1, b2, b3⟩ := h2
  refine ⟨by simp [a1, b1], by simp [a2, b2], fun j v s c q1 q2 q3 => ?_⟩
  rcases Nat.lt_or_ge j l1.length with hj | hj
  · rw [List.getElem?_append_left (by omega)] at q1 q2 q3
    exact a3 j v s c q1 q2 q3
  · rw [List.getElem?_append_right (by omega)] at q1 q2 q3
    rw [a1] at q1
    rw [a2] at q3
    exact b3 (j - l1.length) v s c q1 q2 q3

theorem shs_dec : ∀ (l : List Sh) (cc : List (C I)), cc.length = l.length → (∀ (j : Nat) s c, l[j]? = some s → cc[j]? = some c → ∃ z, s.dec c = some z ∧ s.enc z = c) → ∃ z, Shs.dec l cc = some z ∧ Shs.enc l z = cc
  | [], [], _, _ => ⟨(), rfl, rfl⟩
  | [s], [c], _, h => by
    obtain ⟨z, h1, h2⟩ := h 0 s c rfl rfl
    exact ⟨z, h1, by show [s.enc z] = [c]; rw [h2]⟩
  | s :: t :: ss, c :: cs, hl, h => by
    obtain ⟨z, h1, h2⟩ := h 0 s c rfl rfl
    obtain ⟨y, h3, h4⟩ := shs_dec (t :: ss) cs (by simpa using hl) (fun j s' c' q1 q2 => h (j + 1) s' c' (by simpa using q1) (by simpa using q2))
    refine ⟨(z, y), ?_, ?_⟩
    · show (match s.dec c with | some x => (match Shs.dec (t :: ss) cs with | some y => some (x, y) | none => none) | none => none) = _
      simp only [h1, h3]
      rfl
    · show s.enc z :: Shs.enc (t :: ss) y = _
      rw [h2, h4]
  | [], _ :: _, hl, _ => by cases hl
  | _ :: _, [], hl, _ => by cases hl
  | [s], _ :: _ :: _, hl, _ => by simp at hl

theorem choose_l {α : Type} {Q : Nat → α → Prop} : ∀ n : Nat, (∀ i, i < n → ∃ x, Q i x) → ∃ l : List α, l.length = n ∧ ∀ (i : Nat) x, l[i]? = some x → Q i x
  | 0, _ => ⟨[], rfl, fun i x hi => by simp at hi⟩
  | n + 1, h => by
    obtain ⟨l, hl, hq⟩ := choose_l n (fun i hi => h i (by omega))
    obtain ⟨x, hx⟩ := h n (by omega)
    refine ⟨l ++ [x], by simp [hl], fun i y hi => ?_⟩
    rcases Nat.lt_or_ge i n with hin | hin
    · rw [List.getElem?_append_left (by omega)] at hi; exact hq i y hi
    · rw [List.getElem?_append_right (by omega)] at hi
      have : i = n := by
        rcases Nat.lt_or_ge (i - l.length) 1 with z | z
        · omega
        · rw [List.getElem?_eq_none (by simpa using z)] at hi; cases hi
      subst this
      rw [hl] at hi; simp at hi; subst hi
      exact hx
theorem bound_l {Q : Nat → Nat → Prop} (hm : ∀ i N M, N ≤ M → Q i N → Q i M) : ∀ n : Nat, (∀ i, i < n → ∃ N, Q i N) → ∃ N, ∀ i, i < n → Q i N
  | 0, _ => ⟨0, fun i hi => by omega⟩
  | n + 1, h => by
    obtain ⟨N, hN⟩ := bound_l hm n (fun i hi => h i (by omega))
    obtain ⟨M, hM⟩ := h n (by omega)
    refine ⟨max N M, fun i hi => ?_⟩
    rcases Nat.lt_or_ge i n with q | q
    · exact hm i N _ (Nat.le_max_left _ _) (hN i q)
    · have : i = n := by omega
      subst this
      exact hm i M _ (Nat.le_max_right _ _) hM

variable {P : Program} {T : Ty I} {D : (e : Nat) → Option (Ed I e)}

/-- What T has to do with the table D. -/
structure TyD (P : Program) (T : Ty I) (D : (e : Nat) → Option (Ed I e)) : Prop where
  sz : ∀ e, T.sz e = P.cellsOf e
  of : ∀ e d (z : Shs.ty I d.shs), D e = some d → T.cells e (d.fro z) = Shs.enc d.shs z

theorem tyD_of {dft : (e : Nat) → I e} {glob : Nat → Option (X I)} {u8 : (e : Nat) → Option ((List Int → List (I e)) × (List (I e) → List Int))} (h : EdOK P D u8) : TyD P (tyOf P D dft glob u8) D where
  sz e := (tyOf_ok h).sz e
  of e d z hd := by
    show edCells P D e _ = _
    unfold edCells
    rw [hd]
    simp only [h.fro e d z hd]

theorem weights_mem_all {H : Type} {P : Program} {e : TypeId} {d : DataW H} : ∀ {l : List (DataW H)}, d ∈ l → ∀ n ∈ d.weights P e, n ∈ DataW.weightsAll P e l
  | [], h, _, _ => by cases h
  | x :: l, h, n, hn => by
    simp only [DataW.weightsAll]
    rcases List.mem_cons.1 h with q | q
    · subst q; exact List.mem_append_left _ hn
    · exact List.mem_append_right _ (weights_mem_all q n hn)

/-- Whatever is read at a type, in whatever way. -/
def Read (P : Program) (W : World) (t : TypeId) (cs : List Value) : Prop :=
  ∃ (H : Type) (enc : TypeId × Value → H) (base : Nat) (held : Bool) (fuel : Nat) (y : DataW H × List MemPlace), DataW.trod enc P W base (fun _ => true) held fuel t cs = some y ∧ ∀ n ∈ y.1.weights P t, n ≤ reachBytes

theorem open_fields {f : TypeId → Option (List Sh)} {W : World} {cs : List Value} (hrec : ∀ t l, f t = some l → ∀ (vs : List Value), Read P W t vs → ∃ cc N, OpenL T W N vs l cc) :
    ∀ (fds : List Field) (off : Nat) (l : List Sh), fieldsSh f P off fds = some l → off + l.length = cs.length →
      (∀ fd ∈ fds, Read P W fd.type ((cs.drop fd.offset).take (P.cellsOf fd.type))) → ∃ cc N, OpenL T W N (cs.drop off) l cc
  | [], off, l, h, hl, _ => by
    cases h
    exact ⟨[], 0, by simp at hl ⊢; omega, rfl, fun j v s c _ q _ => by simp at q⟩
  | fd :: fds, off, l, h, hl, ht => by
    simp only [fieldsSh] at h
    cases h1 : f fd.type with
    | none => rw [h1] at h; cases h
    | some l1 =>
      rw [h1] at h
      simp only at h
      split at h
      · rename_i hc
        simp only [Bool.and_eq_true, decide_eq_true_eq] at hc
        obtain ⟨l2, h2, rfl⟩ := Option.map_eq_some_iff.1 h
        obtain ⟨cc2, N2, o2⟩ := open_fields hrec fds (off + l1.length) l2 h2 (by simp at hl; omega) (fun fd hfd => ht fd (by simp [hfd]))
        have hr := ht fd (by simp)
        rw [hc.1, hc.2] at hr
        obtain ⟨cc1, N1, o1⟩ := hrec fd.type l1 h1 _ hr
        refine ⟨cc1 ++ cc2, max N1 N2, ?_⟩
        have := (o1.mono (Nat.le_max_left N1 N2)).append (o2.mono (Nat.le_max_right N1 N2))
        rwa [← List.drop_drop, List.take_append_drop] at this
      · cases h

theorem cell_spot {W : World} {a : Addr} {u : Value} (h : W.cell? a = some u) : a = ⟨a.block, a.off, none⟩ ∧ a.block < W.heap.size := by
  unfold World.cell? at h
  split at h
  · rename_i hb
    split at h
    · cases h
    · rename_i hs
      refine ⟨?_, (Array.getElem?_eq_some_iff.1 hb).1⟩
      cases a with
      | mk b o s => cases s <;> simp_all
  · cases h

theorem open_cells (hok : TyOK P T) (hD : TyD P T D) {W : World} : ∀ (n : Nat) (t : TypeId) (l : List Sh), shOf P D n t = some l → ∀ (cs : List Value), Read P W t cs → ∃ cc N, OpenL T W N cs l cc
  | 0, _, _, h, _, _ => by cases h
  | n + 1, t, l, h, cs, ⟨H, enc, base, held, fuel, y, hy, hb⟩ => by
    have one : ∀ {v : Value} {s : Sh} {c : C I} {N : Nat}, OpenC T W N v s c → OpenL T W N [v] [s] [c] := fun {v s c N} q =>
      ⟨rfl, rfl, fun j v' s' c' h1 h2 h3 => by
        cases j with
        | zero => simp at h1 h2 h3; subst h1; subst h2; subst h3; exact q
        | succ j => simp at h1⟩
    simp only [shOf] at h
    split at h
    · rename_i k hu
      cases h
      obtain ⟨m, rfl, _, hw⟩ := DataW.trod_int hu hy
      exact ⟨[.int k m], 0, one ⟨fun M _ => .int k m, ⟨m, (by show dInt k (.int k m : C I) = some m; simp only [dInt, if_true]), rfl⟩, .int hw, rfl⟩⟩
    · rename_i hu
      cases h
      obtain ⟨b, rfl, _⟩ := DataW.trod_bool hu hy
      exact ⟨[.bool (.b b)], 0, one ⟨fun M _ => RepC.bool (.b b), ⟨b, rfl, rfl⟩, .bool _, rfl⟩⟩
    · rename_i hu
      cases h
      obtain ⟨s, rfl, hy1, hw⟩ := DataW.trod_string hu hy
      have hsz : s.size ≤ reachBytes := hb s.size (by rw [hy1]; simp [DataW.weights])
      exact ⟨[.str s], 0, one ⟨fun M _ => .str s, ⟨s, rfl, rfl⟩, .str hsz, rfl⟩⟩
    · rename_i e hu
      split at h
      · rename_i d l1 hd hl1
        split at h
        · rename_i hc
          simp only [Bool.and_eq_true, decide_eq_true_eq] at hc
          obtain ⟨hsh, hcl, hpos, hby⟩ := hc
          cases h
          have hsh := Shs.same_eq hsh
          have hdec : ∀ z : List (I e), ∃ z', (Sh.sl e).dec (.sl e z : C I) = some z' ∧ (Sh.sl e).enc z' = (.sl e z : C I) := fun z => ⟨z, (by show castL z = some z; simp only [castL, dif_pos]), rfl⟩
          rcases DataW.trod_slice hu hy with ⟨rfl, _⟩ | ⟨a, len, cap, elems, rest, m, _, rfl, hyd, _, hlc, hcm, hel, hat, hrest, _⟩
          · exact ⟨[.sl e []], 0, one ⟨fun M _ => .nilsl e none, hdec [], .sl (by simp) (fun x hx => by simp at hx), rfl⟩⟩
          · rcases Nat.eq_zero_or_pos cap with hcap0 | hcap0
            · have hlen0 : len = 0 := by omega
              subst hcap0; subst hlen0
              exact ⟨[.sl e []], 0, one ⟨fun M _ => .nilsl e (some a), hdec [], .sl (by simp) (fun x hx => by simp at hx), rfl⟩⟩
            -- its first cell is there
            have hfirst : ∃ u, W.cell? a = some u := by
              have get : ∀ vs, W.cells? base a (P.cellsOf e) = some vs → ∃ u, W.cell? a = some u := by
                intro vs hvs
                obtain ⟨_, hl, hcell⟩ := World.cells?_some hvs
                have h0 := hcell 0 (by omega)
                rw [show a.add 0 = a from rfl, List.getElem?_eq_getElem (by omega)] at h0
                exact ⟨_, h0⟩
              rcases Nat.eq_zero_or_pos len with hlen0 | hlen0
              · subst hlen0
                obtain ⟨hr1, hr2⟩ := hrest rfl
                have h1 := hr2 0 (by omega)
                rw [List.getElem?_eq_getElem (by omega)] at h1
                obtain ⟨vs, hvs, _⟩ := Option.bind_eq_some_iff.1 h1
                exact get vs (by simpa [Addr.add] using hvs)
              · have h1 := hat 0 hlen0
                rw [List.getElem?_eq_getElem (by omega)] at h1
                obtain ⟨vs, hvs, _⟩ := Option.bind_eq_some_iff.1 h1
                exact get vs (by simpa [Addr.add] using hvs)
            obtain ⟨u0, hu0⟩ := hfirst
            obtain ⟨ha, hblk⟩ := cell_spot hu0
            obtain ⟨b, off, ha⟩ : ∃ b off, a = ⟨b, off, none⟩ := ⟨_, _, ha⟩
            subst ha
            have hblk : b < W.heap.size := hblk
            -- each element
            have hex : ∀ i, i < len → ∃ x : I e, ∃ N, ∀ (j : Nat) c, (T.cells e x)[j]? = some c → ∃ u s, W.cell? ⟨b, off + (i * T.sz e + j), none⟩ = some u ∧ OpenC T W N u s c := by
              intro i hi
              have h1 := hat i hi
              rw [List.getElem?_eq_getElem (by omega)] at h1
              obtain ⟨vs, hvs, hrd⟩ := Option.bind_eq_some_iff.1 h1
              obtain ⟨cc, N, o1, o2, o3⟩ := open_cells hok hD n e l1 hl1 vs ⟨H, enc, base, held, m, _, hrd, fun z hz => hb z (by rw [hyd]; simp only [DataW.weights, hu]; exact List.mem_cons_of_mem _ (List.mem_append_left _ (weights_mem_all (List.mem_map_of_mem (List.getElem_mem _)) z hz)))⟩
              obtain ⟨_, hl, hcell⟩ := World.cells?_some hvs
              obtain ⟨z, hz1, hz2⟩ := shs_dec d.shs cc (by rw [hsh]; exact o2) (fun j s c q1 q2 => by
                rw [hsh] at q1
                have hj : j < vs.length := by rw [o1]; exact (List.getElem?_eq_some_iff.1 q1).1
                exact (o3 j _ s c (List.getElem?_eq_getElem hj) q1 q2).dec)
              refine ⟨d.fro z, N, fun j cj hj => ?_⟩
              rw [hD.of e d z hd, hz2] at hj
              have hjl : j < l1.length := by rw [← o2]; exact (List.getElem?_eq_some_iff.1 hj).1
              have hjv : j < vs.length := by omega
              have hc2 := hcell j (by omega)
              rw [List.getElem?_eq_getElem hjv] at hc2
              refine ⟨_, _, ?_, o3 j _ _ cj (List.getElem?_eq_getElem hjv) (List.getElem?_eq_getElem hjl) hj⟩
              rw [← hc2, add_at, add_at, hD.sz, Nat.add_assoc]
            have hex2 : ∃ N, ∃ xs : List (I e), xs.length = len ∧ ∀ (i : Nat) x, xs[i]? = some x → ∀ (j : Nat) c, (T.cells e x)[j]? = some c → ∃ u s, W.cell? ⟨b, off + (i * T.sz e + j), none⟩ = some u ∧ OpenC T W N u s c := by
              obtain ⟨xs, hxl, hxs⟩ := choose_l len hex
              obtain ⟨N, hN⟩ := bound_l (Q := fun i N => ∀ x, xs[i]? = some x → ∀ (j : Nat) c, (T.cells e x)[j]? = some c → ∃ u s, W.cell? ⟨b, off + (i * T.sz e + j), none⟩ = some u ∧ OpenC T W N u s c)
                (fun i N M hNM hQ x hx j c hj => by obtain ⟨u, s, q1, q2⟩ := hQ x hx j c hj; exact ⟨u, s, q1, q2.mono hNM⟩) len (fun i hi => by
                  obtain ⟨N, hN⟩ := hxs i xs[i] (List.getElem?_eq_getElem (by omega))
                  exact ⟨N, fun x hx => by rw [List.getElem?_eq_getElem (by omega)] at hx; cases hx; exact hN⟩)
              exact ⟨N, xs, hxl, fun i x hx => hN i (by rw [← hxl]; exact (List.getElem?_eq_some_iff.1 hx).1) x hx⟩
            obtain ⟨N, xs, hxl, hxs⟩ := hex2
            subst hxl
            have hlr : xs.length ≤ reachBytes := by
              have h1 := hb ((elems.length + rest.length) * P.bytesOf e) (by rw [hyd]; simp only [DataW.weights, hu, List.length_map]; exact List.mem_cons_self ..)
              have h2 : (elems.length + rest.length) * 1 ≤ (elems.length + rest.length) * P.bytesOf e := Nat.mul_le_mul_left _ hby
              omega
            refine ⟨[.sl e xs], max N (off + xs.length * T.sz e), one ⟨fun M hM => ?_, hdec xs, .sl hlr (fun x hx c hc => ?_), rfl⟩⟩
            · refine RepC.sl e xs b off cap (fun i j => (W.cell? ⟨b, off + (i * T.sz e + j), none⟩).getD undef) ?_ hlc (fun i x hx j c hj => ?_) (fun i x hx j c hj => ?_)
              · unfold E0; rw [if_pos hblk]; omega
              · obtain ⟨u, s, q1, _⟩ := hxs i x hx j c hj
                simp only [q1, Option.getD_some]
              · obtain ⟨u, s, q1, q2⟩ := hxs i x hx j c hj
                simp only [q1, Option.getD_some]
                exact q2.rep M (by omega)
            · obtain ⟨i, hi, rfl⟩ := List.getElem_of_mem hx
              obtain ⟨j, hj, rfl⟩ := List.getElem_of_mem hc
              obtain ⟨u, s, _, q2⟩ := hxs i _ (List.getElem?_eq_getElem hi) j _ (List.getElem?_eq_getElem hj)
              exact q2.ok
        · cases h
      · cases h
    · rename_i fs hu
      split at h
      · rename_i l1 hl1
        split at h
        · rename_i hc
          simp only [decide_eq_true_eq] at hc
          cases h
          obtain ⟨xs, m, _, hyd, hl, hn, hx⟩ := DataW.trod_struct hu hy
          obtain ⟨cc, N, ho⟩ := open_fields (T := T) (W := W) (cs := cs) (f := shOf P D n) (fun t l hl vs hr => open_cells hok hD n t l hl vs hr) fs.toList 0 l hl1 (by omega) (fun fd hfd => by
            obtain ⟨i, hi, rfl⟩ := List.getElem_of_mem hfd
            have hi2 : i < fs.size := by simpa using hi
            have h2 := hx i fs.toList[i] (by rw [Array.getElem?_eq_getElem hi2]; simp)
            have hi' : i < xs.length := by rw [hn]; simpa using hi
            rw [List.getElem?_eq_getElem hi'] at h2
            exact ⟨H, enc, base, held, m, _, h2, fun z hz => hb z (by rw [hyd]; simp only [DataW.weights, hu]; exact DataW.weights_mem_each (j := i) (t := fs.toList[i].type) (d := xs[i].1) (by simp [hi2]) (by simp [hi']) z hz)⟩)
          exact ⟨cc, N, by simpa using ho⟩
        · cases h
      · cases h
    · cases h

/-! ### an argument -/
def shArg (P : Program) (D : (e : Nat) → Option (Ed I e)) (t : TypeId) : Option SX :=
  match P.underlying t, shOf P D 12 t with
  | some (.struct _), some l => some (.agg l)
  | some (.int _), some [s] => some (.one s)
  | some .bool, some [s] => some (.one s)
  | some .string, some [s] => some (.one s)
  | some (.slice _), some [s] => some (.one s)
  | _, _ => none

/-- What can be told of an argument. -/
def OkX (T : Ty I) : X I → Prop
  | .y (.one c) => OkC T c
  | .y (.agg cs) => ∀ c ∈ cs, OkC T c
  | _ => False

theorem data_weak {c : C I} (h : c.data = true) : c.weak = c := by cases c <;> first | rfl | cases h
theorem data_tok {c : C I} (h : c.data = true) (v : Value) : tokC v c = none := by cases c <;> first | rfl | cases h

structure OpenX (T : Ty I) (W : World) (N : Nat) (v : Value) (s : SX) (z : s.ty I) : Prop where
  rep : ∀ M, N ≤ M → RepX T [] [] W (E0 W M) v (s.enc z)
  ok : OkX T (s.enc z)
  tok : ∀ v, tokX v (s.enc z) = none

theorem OpenX.mono {W : World} {N N' : Nat} {v : Value} {s : SX} {z : s.ty I} (h : OpenX T W N v s z) (hN : N ≤ N') : OpenX T W N' v s z :=
  ⟨fun M hM => h.rep M (Nat.le_trans hN hM), h.ok, h.tok⟩

theorem open_arg (hok : TyOK P T) (hD : TyD P T D) {W : World} {t : TypeId} {s : SX} (hs : shArg P D t = some s) {v : Value} {r : Reach} {base0 : Nat} (hwide : Value.okWide P W r base0 t v) (hr : Read P W t v.cells.toList) : ∃ z N, OpenX T W N v s z := by
  have one : ∀ {s : Sh} {v : Value}, v.cells = #[v] → shOf P D 12 t = some [s] → Read P W t v.cells.toList → ∃ z N, OpenX T W N v (.one s) z := by
    intro s v hv hsh hr
    rw [hv] at hr
    obtain ⟨cc, N, o1, o2, o3⟩ := open_cells hok hD 12 t [s] hsh _ hr
    match cc, o2, o3 with
    | [c], _, o3 =>
      have q := o3 0 v s c rfl rfl rfl
      obtain ⟨z, z1, z2⟩ := q.dec
      have hd : (s.enc z).data = true := by rw [z2]; exact q.data
      refine ⟨z, N, ⟨fun M hM => ?_, ?_, fun v => data_tok hd v⟩⟩
      · show RepT T [] W (E0 W M) v (s.enc z)
        rw [z2]; exact (q.rep M hM).toT
      · show OkC T (s.enc z)
        rw [z2]; exact q.ok
  unfold shArg at hs
  split at hs
  · rename_i fs l hu hsh
    cases hs
    obtain ⟨cs, rfl, _⟩ := okWide_struct hu hwide
    obtain ⟨cc, N, o1, o2, o3⟩ := open_cells hok hD 12 t l hsh _ hr
    have o1 : cs.toList.length = l.length := o1
    have hat : ∀ (j : Nat) s c, l[j]? = some s → cc[j]? = some c → ∃ u, cs.toList[j]? = some u ∧ OpenC T W N u s c := fun j s c q1 q2 => by
      have hj : j < cs.toList.length := by rw [o1]; exact (List.getElem?_eq_some_iff.1 q1).1
      exact ⟨_, List.getElem?_eq_getElem hj, o3 j _ s c (List.getElem?_eq_getElem hj) q1 q2⟩
    obtain ⟨z, z1, z2⟩ := shs_dec l cc o2 (fun j s c q1 q2 => by obtain ⟨u, _, q⟩ := hat j s c q1 q2; exact q.dec)
    have hat2 : ∀ (j : Nat) c, cc[j]? = some c → ∃ u s, cs.toList[j]? = some u ∧ OpenC T W N u s c := fun j c q => by
      have hj : j < l.length := by rw [← o2]; exact (List.getElem?_eq_some_iff.1 q).1
      obtain ⟨u, q1, q2⟩ := hat j _ c (List.getElem?_eq_getElem hj) q
      exact ⟨u, _, q1, q2⟩
    refine ⟨z, N, ⟨fun M hM => ?_, fun c hc => ?_, fun v => rfl⟩⟩
    · refine ⟨cs, rfl, ?_, fun j c hc => ?_⟩
      · show cs.size = (Shs.enc l z).length
        rw [z2, o2]; simpa using o1
      · have hc : (Shs.enc l z)[j]? = some c := hc
        rw [z2] at hc
        obtain ⟨u, s, q1, q2⟩ := hat2 j c hc
        exact ⟨u, by simpa using q1, by rw [data_weak q2.data]; exact (q2.rep M hM).toT⟩
    · have hc : c ∈ Shs.enc l z := hc
      rw [z2] at hc
      obtain ⟨j, hj, rfl⟩ := List.getElem_of_mem hc
      obtain ⟨u, s, _, q2⟩ := hat2 j _ (List.getElem?_eq_getElem hj)
      exact q2.ok
  · rename_i hu hsh; cases hs; obtain ⟨n, rfl⟩ := okWide_int hu hwide; exact one rfl hsh hr
  · rename_i hu hsh; cases hs; obtain ⟨n, rfl⟩ := okWide_bool hu hwide; exact one rfl hsh hr
  · rename_i hu hsh; cases hs; obtain ⟨n, rfl⟩ := okWide_string hu hwide; exact one rfl hsh hr
  · rename_i hu hsh; cases hs; obtain ⟨a, n, k, rfl⟩ := okWide_slice hu hwide; exact one rfl hsh hr
  · cases hs

/-! ### a call from nothing -/
/-- The tables of the package level, as they are. -/
def GlobOK (T : Ty I) (W : World) : Prop := ∃ N, ∀ M, N ≤ M → ∀ (g : Nat) x, T.glob g = some x → ∃ (e : Nat) (l : List (I e)), x = .ip e l ∧ RepC T W (E0 W M) (.slice (some ⟨g, 0, none⟩) l.length l.length) (.sl e l)

/-- The arguments, each as it was read. -/
inductive OpenA (T : Ty I) (W : World) : List Value → List (X I) → Prop
  | nil : OpenA T W [] []
  | cons {v : Value} {s : SX} {z : s.ty I} {N : Nat} {vs : List Value} {xs : List (X I)} : OpenX T W N v s z → OpenA T W vs xs → OpenA T W (v :: vs) (s.enc z :: xs)

theorem OpenA.all {W : World} : ∀ {vs : List Value} {xs : List (X I)}, OpenA T W vs xs → ∃ N, vs.length = xs.length ∧ ∀ (j : Nat) x, xs[j]? = some x → ∃ v, vs[j]? = some v ∧ (∀ M, N ≤ M → RepX T [] [] W (E0 W M) v x) ∧ ∀ u, tokX u x = none := by
  intro vs xs h
  induction h with
  | nil => exact ⟨0, rfl, fun j x h => by simp at h⟩
  | cons hx _ ih =>
    rename_i v s z N vs xs _
    obtain ⟨M, h1, h2⟩ := ih
    refine ⟨max N M, by simp [h1], fun j x hj => ?_⟩
    cases j with
    | zero => simp at hj; subst hj; exact ⟨v, rfl, fun K hK => hx.rep K (by omega), hx.tok⟩
    | succ j =>
      obtain ⟨v', q1, q2, q3⟩ := h2 j x (by simpa using hj)
      exact ⟨v', by simpa using q1, fun K hK => q2 K (by omega), q3⟩

/-- A function that comes to true, by its Lean text: the call comes to true, and leaves all that was there as it was. -/
theorem row_calls {W : World} {g : Nat} {vs : Array Value} {xs : List (X I)} (hcall : CallOK P T g [] xs [] (.c (.bool (.b true))) []) (hopen : OpenA T W vs.toList xs) (hglob : GlobOK T W) :
    Calls P g vs W fun e W' => e = .returned (.bool true) ∧ Below W.heap.size W W' := by
  obtain ⟨N, h1, h2⟩ := hopen.all
  obtain ⟨N2, hg⟩ := hglob
  have htok : ∀ i b, tokOf [] [] W xs vs i = some b → False := by
    intro i b q
    cases i with
    | cell o j => simp [tokOf] at q
    | slot t =>
      simp only [tokOf] at q
      by_cases ht : t < xs.length
      · obtain ⟨v, _, _, q3⟩ := h2 t xs[t] (List.getElem?_eq_getElem ht)
        have e : Fr.get xs t = xs[t] := by simp [Fr.get, List.getD_eq_getElem?_getD, List.getElem?_eq_getElem ht]
        rw [e, q3] at q; cases q
      · rw [get_ge xs t (by omega)] at q; cases q
  have hs : Sim T [] (E0 W (max N N2)) W xs [] vs := by
    refine { len := rfl, objs := fun o b ob q => (by simp at q), slots := fun t => ?_, flen := by rw [← h1]; simp, inj := fun o o' b q => (by simp at q), zero := fun o b q => (by simp at q), fresh := fun b hb => by unfold E0; rw [if_neg (by omega)],
             tinj := fun i j b q => (htok i b q).elim, tobj := fun i b o q => (htok i b q).elim, tlt := fun i b q => (htok i b q).elim, glob := fun g x hx => hg _ (Nat.le_max_right _ _) g x hx }
    by_cases ht : t < xs.length
    · obtain ⟨v, q1, q2, _⟩ := h2 t xs[t] (List.getElem?_eq_getElem ht)
      have e : Fr.get xs t = xs[t] := by simp [Fr.get, List.getD_eq_getElem?_getD, List.getElem?_eq_getElem ht]
      have e2 : vs.getD t undef = v := by rw [Array.getD_eq_getD_getElem?, ← Array.getElem?_toList, q1]; rfl
      rw [e, e2]
      exact q2 _ (Nat.le_max_left _ _)
    · rw [get_ge xs t (by omega)]; trivial
  refine (hcall [] (E0 W (max N N2)) W vs (by rw [← h1]; simp) hs).mono ?_
  rintro e W' ⟨v, φ', E', rfl, f⟩
  have hv := f.sim.slots 0
  have hv : RepC T W' E' v (.bool (.b true)) := hv
  have hv2 : v = .bool true := by cases hv; rfl
  refine ⟨by rw [hv2], ⟨f.ch.os, f.ch.tape, f.ch.output, f.ch.size, fun k hk => (f.ch.keep k hk ?_).1⟩⟩
  rintro (⟨o, q, _⟩ | ⟨i, q⟩)
  · cases q
  · exact htok i k q
end
end Go.Proofs.YtgefikclhfjcgaaDoorEv

namespace Go.Proofs.YtgefikclhfjcgaaDoorEv
open Go Go.RowKit Go.WideShapes
set_option linter.unusedVariables false
section
variable {I : Nat → Type} {P : Program} {T : Ty I}
theorem glob_row (hok : TyOK P T) {W : World} {g e : Nat} (hc : P.cellsOf e = 1) (hsz : T.sz e = P.cellsOf e) (l : List (I e))
    (h : ∀ (i : Nat) x, l[i]? = some x → ∃ c v, T.cells e x = [c] ∧ W.cell? ⟨g, i, none⟩ = some v ∧ ∀ E, RepC T W E v c) :
    ∃ N, ∀ M, N ≤ M → RepC T W (E0 W M) (.slice (some ⟨g, 0, none⟩) l.length l.length) (.sl e l) := by
  have key : ∀ (i : Nat) x, l[i]? = some x → ∀ (j : Nat) c, (T.cells e x)[j]? = some c → j = 0 ∧ ∃ v, W.cell? ⟨g, 0 + (i * T.sz e + j), none⟩ = some v ∧ ∀ E, RepC T W E v c := by
    intro i x hx j c hj
    obtain ⟨c', v, h1, h2, h3⟩ := h i x hx
    rw [h1] at hj
    cases j with
    | succ j => simp at hj
    | zero =>
      simp at hj
      subst hj
      refine ⟨rfl, v, ?_, h3⟩
      rw [hsz, hc, Nat.mul_one, Nat.add_zero, Nat.zero_add]
      exact h2
  refine ⟨l.length * T.sz e, fun M hM => ?_⟩
  refine RepC.sl e l g 0 l.length (fun i j => (W.cell? ⟨g, 0 + (i * T.sz e + j), none⟩).getD undef) ?_ (Nat.le_refl _) (fun i x hx j c hj => ?_) (fun i x hx j c hj => ?_)
  · cases l with
    | nil => simp
    | cons x l =>
      obtain ⟨c, v, _, h2, _⟩ := h 0 x rfl
      have hb : g < W.heap.size := (cell_spot h2).2
      unfold E0
      rw [if_pos hb, Nat.zero_add]
      exact hM
  · obtain ⟨_, v, q, _⟩ := key i x hx j c hj
    simp only [q, Option.getD_some]
  · obtain ⟨_, v, q, r⟩ := key i x hx j c hj
    simp only [q, Option.getD_some]
    exact r _
theorem glob_ints (hok : TyOK P T) {W : World} {nm : String} {g t e n : Nat} {k : IntKind} {cs : Array Value} {fuel : Nat} {p : List MemPlace} (f : I e → Int) (hf : ∀ x, T.cells e x = [.int k (f x)]) (l : List (I e))
    (hg : P.globalNamed nm = some g) (hu : P.underlying t = some (.array n e)) (he : P.underlying e = some (.int k)) (hc : P.cellsOf e = 1) (hsz : T.sz e = P.cellsOf e) (hv : W.var? P nm = some cs)
    (hd : DataW.trod (fun _ => ()) P W 0 (fun _ => true) false fuel t cs.toList = some (.agg (l.map fun x => .lit (.int k (f x))), p)) :
    ∃ N, ∀ M, N ≤ M → RepC T W (E0 W M) (.slice (some ⟨g, 0, none⟩) l.length l.length) (.sl e l) := by
  refine glob_row hok hc hsz l fun j x hx => ?_
  obtain ⟨xs, m, _, hx2, hl, hxn, hel⟩ := DataW.trod_array hu hd
  have e3 : l.map (fun x => (.lit (.int k (f x)) : DataW Unit)) = xs.map (·.1) := by have := congrArg Prod.fst hx2; simpa using this
  have hln : l.length = xs.length := by simpa using congrArg List.length e3
  obtain ⟨hj, rfl⟩ := List.getElem?_eq_some_iff.1 hx
  have h1 := hel j (by omega)
  rw [hc, Nat.mul_one] at h1
  have hxj : j < xs.length := by omega
  rw [List.getElem?_eq_getElem hxj] at h1
  have hcl : j < cs.toList.length := by
    rcases Nat.lt_or_ge j cs.toList.length with h | h
    · exact h
    · rw [List.drop_eq_nil_of_le h] at h1
      obtain ⟨_, e1, _⟩ := DataW.trod_int he h1
      simp at e1
  rw [show (cs.toList.drop j).take 1 = [cs.toList[j]] by rw [List.drop_eq_getElem_cons hcl]; rfl] at h1
  obtain ⟨z, e1, e2, _⟩ := DataW.trod_int he h1
  have e4 := congrArg (fun l => l[j]?) e3
  simp only [List.getElem?_map] at e4
  rw [List.getElem?_eq_getElem hxj, List.getElem?_eq_getElem hj] at e4
  simp only [Option.map_some, Option.some.injEq] at e4
  rw [e2] at e4
  have e6 := World.var?_cell hg hv j
  refine ⟨_, .int k z, hf _, ?_, fun E => ?_⟩
  · rw [e6, ← Array.getElem?_toList, List.getElem?_eq_getElem hcl]
    injection e1 with e1
    rw [e1]
  · have e5 : f l[j] = z := by simp only [DataW.lit.injEq, Lit.int.injEq, true_and] at e4; exact e4
    rw [e5]
    exact .int k z
theorem glob_strs (hok : TyOK P T) {W : World} {nm : String} {g t e n : Nat} {cs : Array Value} {fuel : Nat} {p : List MemPlace} (f : I e → ByteArray) (hf : ∀ x, T.cells e x = [.str (f x)]) (l : List (I e))
    (hg : P.globalNamed nm = some g) (hu : P.underlying t = some (.array n e)) (he : P.underlying e = some .string) (hc : P.cellsOf e = 1) (hsz : T.sz e = P.cellsOf e) (hv : W.var? P nm = some cs)
    (hd : DataW.trod (fun _ => ()) P W 0 (fun _ => true) false fuel t cs.toList = some (.agg (l.map fun x => .lit (.string (f x).data.toList)), p)) :
    ∃ N, ∀ M, N ≤ M → RepC T W (E0 W M) (.slice (some ⟨g, 0, none⟩) l.length l.length) (.sl e l) := by
  refine glob_row hok hc hsz l fun j x hx => ?_
  obtain ⟨xs, m, _, hx2, hl, hxn, hel⟩ := DataW.trod_array hu hd
  have e3 : l.map (fun x => (.lit (.string (f x).data.toList) : DataW Unit)) = xs.map (·.1) := by have := congrArg Prod.fst hx2; simpa using this
  have hln : l.length = xs.length := by simpa using congrArg List.length e3
  obtain ⟨hj, rfl⟩ := List.getElem?_eq_some_iff.1 hx
  have h1 := hel j (by omega)
  rw [hc, Nat.mul_one] at h1
  have hxj : j < xs.length := by omega
  rw [List.getElem?_eq_getElem hxj] at h1
  have hcl : j < cs.toList.length := by
    rcases Nat.lt_or_ge j cs.toList.length with h | h
    · exact h
    · rw [List.drop_eq_nil_of_le h] at h1
      obtain ⟨_, e1, _⟩ := DataW.trod_string he h1
      simp at e1
  rw [show (cs.toList.drop j).take 1 = [cs.toList[j]] by rw [List.drop_eq_getElem_cons hcl]; rfl] at h1
  obtain ⟨z, e1, e2, _⟩ := DataW.trod_string he h1
  have e4 := congrArg (fun l => l[j]?) e3
  simp only [List.getElem?_map] at e4
  rw [List.getElem?_eq_getElem hxj, List.getElem?_eq_getElem hj] at e4
  simp only [Option.map_some, Option.some.injEq] at e4
  rw [e2] at e4
  have e6 := World.var?_cell hg hv j
  refine ⟨_, .string z, hf _, ?_, fun E => ?_⟩
  · rw [e6, ← Array.getElem?_toList, List.getElem?_eq_getElem hcl]
    injection e1 with e1
    rw [e1]
  · have e5 : f l[j] = z := by injection e4 with e4; injection e4 with e4; exact ByteArray.ext (Array.toList_inj.1 e4)
    rw [e5]
    exact .str z
end
end Go.Proofs.YtgefikclhfjcgaaDoorEv

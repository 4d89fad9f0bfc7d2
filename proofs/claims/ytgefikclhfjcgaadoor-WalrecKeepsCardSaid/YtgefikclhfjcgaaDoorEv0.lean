/- A machine of lists and numbers: what it carries out, the program carries out; no condition but those that each theorem states. -/
import Derived.WalkKit
import Derived.Below
import Derived.KernelRfl
import Derived.Laws.Entries
import Derived.OrdersHeld
import Derived.Laws.StructEq
import Derived.Laws.Concat
import Derived.Laws.BytesString
import Derived.Laws.IdiomStrings
import Derived.ChangeMaps4
namespace Go.Proofs.YtgefikclhfjcgaaDoorEv
open Go Go.RowKit
set_option linter.unusedVariables false

/-- A bool: a proposition or a Bool, as it is or turned. -/
inductive Bo : Type
  | p (p : Prop) (i : Decidable p)
  | np (p : Prop) (i : Decidable p)
  | b (b : Bool)
  | nb (b : Bool)

def Bo.get : Bo → Bool
  | Bo.p q i => @decide q i
  | Bo.np q i => !(@decide q i)
  | .b c => c
  | .nb c => !c
def Bo.not : Bo → Bo
  | Bo.p q i => Bo.np q i
  | Bo.np q i => Bo.p q i
  | Bo.b c => Bo.nb c
  | Bo.nb c => Bo.b c
@[reducible] def Bo.ite {α : Type} : Bo → α → α → α
  | Bo.p q i, x, y => @_root_.ite α q i x y
  | Bo.np q i, x, y => @_root_.ite α q i y x
  | Bo.b c, x, y => if c = true then x else y
  | Bo.nb c, x, y => if c = true then y else x

/-- What stands in one cell. 'sl': a slice whose elements nobody writes any more; 'acc': one that may be appended to; 'lit': a literal of one element. -/
inductive C (I : Nat → Type) : Type
  | int (k : IntKind) (n : Int)
  | bool (b : Bo)
  | str (s : ByteArray)
  | nils
  | sl (e : Nat) (l : List (I e))
  | acc (e : Nat) (l : List (I e))
  | own (e : Nat) (l : List (I e))
  | lit (e : Nat) (x : I e)
  | ptr (o off : Nat)
  | nilp
  | map (o : Nat)
  | dead

inductive Y (I : Nat → Type) : Type
  | one (c : C I)
  | agg (cs : List (C I))

/-- What a slot holds. 'ep': the address of cells that nobody writes; 'rp': the address of a cell of an element of a row; 'rs': a row as a slice; 'ip': the address of an array that nobody writes. -/
inductive X (I : Nat → Type) : Type
  | y (v : Y I)
  | tup (vs : List (Y I))
  | ep (cs : List (C I)) (off : Nat)
  | fn (f : Nat) (caps : List (C I))
  | rp (o : Nat) (e : Nat) (i : Nat) (off : Nat)
  | rs (o : Nat) (e : Nat)
  | ip (e : Nat) (l : List (I e))
  | dead

@[reducible] def X.c {I : Nat → Type} (c : C I) : X I := .y (.one c)

/-- A key's kind. -/
inductive Kd : Type
  | int (k : IntKind)
  | str
  deriving DecidableEq
/-- What a variable of the call holds. -/
inductive O (I : Nat → Type) : Type
  | var (cs : List (C I))
  | row (e : Nat) (l : List (I e))
  | map (kd : Kd) (k v : Nat) (l : List (I k × I v))
  | gone

/-- The elements of slices, as Lean's types. -/
structure Ty (I : Nat → Type) where
  sz : Nat → Nat
  cells : (e : Nat) → I e → List (C I)
  of : (e : Nat) → List (C I) → Option (I e)
  dft : (e : Nat) → I e
  glob : Nat → Option (X I)
  /-- elements that are bytes -/
  u8 : (e : Nat) → Option ((List Int → List (I e)) × (List (I e) → List Int))

def bt (s : ByteArray) (i : Int) : Int := if h : i.toNat < s.size then ((s[i.toNat]'h).toNat : Int) else 0
def rd {α : Type} (d : α) (l : List α) (i : Int) : α := l.getD i.toNat d
def shl (k : IntKind) (x y : Int) : Int := k.wrap (x * 2 ^ min y.toNat k.bits)
def shr (k : IntKind) (x y : Int) : Int := x / 2 ^ min y.toNat k.bits
def strOf (l : List Int) : ByteArray := ⟨(l.map fun n => UInt8.ofNat n.toNat).toArray⟩
def bytesOf (s : ByteArray) : List Int := s.toList.map fun b => (b.toNat : Int)
def slc {α : Type} (l : List α) (lo hi : Int) : List α := (l.take hi.toNat).drop lo.toNat

section
variable {I : Nat → Type} (P : Program) (T : Ty I)

def castL {e e' : Nat} (l : List (I e)) : Option (List (I e')) := if h : e = e' then some (h ▸ l) else none
def castE {e e' : Nat} (x : I e) : Option (I e') := if h : e = e' then some (h ▸ x) else none

def castM {k e k' e' : Nat} (l : List (I k × I e)) : Option (List (I k' × I e')) := if h : k = k' then (if h2 : e = e' then some (h ▸ h2 ▸ l) else none) else none
/-- Maps: entries in the order in which their keys came. -/
def mget {α β : Type} (p : α → Bool) : List (α × β) → Option β
  | [] => none
  | q :: l => if p q.1 = true then some q.2 else mget p l
def mput {α β : Type} (p : α → Bool) (a : α) (b : β) : List (α × β) → List (α × β)
  | [] => [(a, b)]
  | q :: l => if p q.1 = true then (a, b) :: l else q :: mput p a b l
def mdel {α β : Type} (p : α → Bool) : List (α × β) → List (α × β)
  | [] => []
  | q :: l => if p q.1 = true then l else q :: mdel p l
def ceq : C I → C I → Bool
  | .int _ a, .int _ b => a == b
  | .str a, .str b => a.toList == b.toList
  | _, _ => false
def isKd : Kd → C I → Bool
  | .int q, .int q' _ => decide (q = q')
  | .str, .str _ => true
  | _, _ => false
def kdOf (k : TypeId) : Option Kd := match P.underlying k with | some (.int q) => some (.int q) | some .string => some .str | _ => none
def keq (k : Nat) (c : C I) (a : I k) : Bool := match T.cells k a with | [d] => ceq c d | _ => false

abbrev Fr (I : Nat → Type) := List (X I)
def Fr.get (fr : Fr I) (t : Nat) : X I := fr.getD t .dead
def Fr.put (fr : Fr I) (t : Nat) (x : X I) : Fr I := fr.set t x

/-- A cell without its right to be appended to. -/
def C.weak : C I → C I
  | .acc e l => .sl e l
  | .lit e x => .sl e [x]
  | .own _ _ => .dead
  | c => c
def Y.weak : Y I → Y I
  | .one c => .one c.weak
  | .agg cs => .agg (cs.map C.weak)
def X.weak : X I → X I
  | X.y v => X.y v.weak
  | x => x
/-- A cell that holds no right and no address. -/
def C.data : C I → Bool
  | .acc .. | .own .. | .lit .. | .ptr .. | .map .. => false
  | _ => true

def kOf (t : TypeId) : Option TypeDesc := P.underlying t
def cellsOf (t : TypeId) : Option Nat := (P.info? t).map (·.size)
def bytesOfT (t : TypeId) : Nat := ((P.info? t).map (·.bytes)).getD 0
def aggT (t : TypeId) : Bool := match P.underlying t with | some (.struct _) | some (.array _ _) => true | _ => false

/-- A constant. -/
def cOf : Value → Option (C I)
  | .int k n => some (.int k n)
  | .bool b => some (.bool (.b b))
  | .string s => some (.str s)
  | .slice none 0 0 => some .nils
  | .pointer none => some .nilp
  | _ => none
def yOf : Value → Option (Y I)
  | .agg cs => (cs.toList.mapM cOf).map .agg
  | v => (cOf v).map .one
def zeroOf (t : TypeId) : Option (List (C I)) := ((P.info? t).bind (·.zero)).bind fun z => z.cells.toList.mapM cOf

def ev (fr : Fr I) : Operand → X I
  | .tmp t => fr.get t
  | .const v => ((yOf v).map X.y).getD .dead
  | .global g => (T.glob g).getD .dead
  | .func f => .fn f []

def listOf (e : Nat) : C I → Option (List (I e))
  | .nils => some []
  | .sl _ l => castL l
  | .acc _ l => castL l
  | .lit _ x => castL [x]
  | _ => none
def accOf (e : Nat) : C I → Option (List (I e))
  | .nils => some []
  | .acc _ l => castL l
  | .lit _ x => castL [x]
  | _ => none

variable {R : Type}
abbrev Hp (I : Nat → Type) := List (O I)
/-- An operation's value, the slots and the variables then. -/
abbrev Kont (I : Nat → Type) (R : Type) := X I → Fr I → Hp I → Option R

/-- The elements of a row. -/
def rowOf (H : Hp I) (o e : Nat) : Option (List (I e)) := match H[o]? with | some (.row _ l) => castL l | _ => none

def eqFs (g : Field → Option Bool) : List Field → Option Bool
  | [] => some true
  | [f] => if f.name = "_" then none else g f
  | f :: fs => if f.name = "_" then none else (g f).bind fun r => (eqFs g fs).map fun s => (r && s)
def eqT (P : Program) : Nat → TypeId → List (C I) → List (C I) → Option Bool
  | 0, _, _, _ => none
  | d + 1, t, xs, ys =>
    match P.underlying t with
    | some (.struct fs) =>
      if P.stoodInHeld t then none else
      eqFs (fun f => match cellsOf P f.type with | some n => if f.offset + n ≤ xs.length then if f.offset + n ≤ ys.length then eqT P d f.type ((xs.drop f.offset).take n) ((ys.drop f.offset).take n) else none else none | none => none) fs.toList
    | some (.int _) => (match xs, ys with | [.int k a], [.int k' b] => if k = k' then some (a == b) else none | _, _ => none)
    | some .bool => (match xs, ys with | [.bool a], [.bool b] => some (a.get == b.get) | _, _ => none)
    | some .string => (match xs, ys with | [.str a], [.str b] => some (a.toList == b.toList) | _, _ => none)
    | _ => none

def intOp (op : BinOp) (k : IntKind) (a b : Int) (K : C I → Option R) : Option R :=
  match op with
  | .add => K (.int k (k.wrap (a + b)))
  | .sub => K (.int k (k.wrap (a - b)))
  | .mul => K (.int k (k.wrap (a * b)))
  | .quo => if b = 0 then none else K (.int k (k.wrap (a.tdiv b)))
  | .rem => if b = 0 then none else K (.int k (a.tmod b))
  | .and => K (.int k (Go.bits .and k a b))
  | .or => K (.int k (Go.bits .or k a b))
  | .xor => K (.int k (Go.bits .xor k a b))
  | .andNot => K (.int k (Go.bits .andNot k a b))
  | .eql => K (.bool (.p (a = b) inferInstance))
  | .neq => K (.bool (.np (a = b) inferInstance))
  | .lss => K (.bool (.p (a < b) inferInstance))
  | .leq => K (.bool (.p (a ≤ b) inferInstance))
  | .gtr => K (.bool (.p (a > b) inferInstance))
  | .geq => K (.bool (.p (a ≥ b) inferInstance))
  | _ => none
def strOp (op : BinOp) (a b : ByteArray) (K : C I → Option R) : Option R :=
  match op with
  | .add => if a.size + b.size ≤ 9223372036854775807 then K (.str (a ++ b)) else none
  | .eql => K (.bool (.p (a.toList = b.toList) inferInstance))
  | .neq => K (.bool (.np (a.toList = b.toList) inferInstance))
  | .lss => K (.bool (.b (Op.bytesLess a.toList b.toList)))
  | .leq => K (.bool (.b (Op.bytesLess a.toList b.toList || a.toList == b.toList)))
  | .gtr => K (.bool (.nb (Op.bytesLess a.toList b.toList || a.toList == b.toList)))
  | .geq => K (.bool (.nb (Op.bytesLess a.toList b.toList)))
  | _ => none
def binOp (op : BinOp) (t : TypeId) (x y : X I) (K : C I → Option R) : Option R :=
  match x, y with
  | .y (.one (.int k a)), .y (.one (.int k' b)) =>
    match op with
    | .shl => if b < 0 then none else K (.int k (shl k a b))
    | .shr => if b < 0 then none else K (.int k (shr k a b))
    | _ => if k = k' then intOp op k a b K else none
  | .y (.one (.str a)), .y (.one (.str b)) => strOp op a b K
  | .y (.one (.bool a)), .y (.one (.bool b)) =>
    match P.underlying t, op with
    | some .bool, .eql => K (.bool (.b (a.get == b.get)))
    | some .bool, .neq => K (.bool (.nb (a.get == b.get)))
    | _, _ => none
  | .y (.one (.ptr _ _)), .y (.one .nilp) =>
    match P.underlying t, op with
    | some (.pointer _), .eql => K (.bool (.b false))
    | some (.pointer _), .neq => K (.bool (.b true))
    | _, _ => none
  | .y (.one .nilp), .y (.one .nilp) =>
    match P.underlying t, op with
    | some (.pointer _), .eql => K (.bool (.b true))
    | some (.pointer _), .neq => K (.bool (.b false))
    | _, _ => none
  | .y (.agg as), .y (.agg bs) =>
    match (if P.eqGuardType P.depth t then none else if aggT P t then eqT P Op.maxDepth t as bs else none) with
    | some r => (match op with | .eql => K (.bool (.b r)) | .neq => K (.bool (.nb r)) | _ => none)
    | none => none
  | _, _ => none
def unOp (op : UnOp) (x : X I) (K : C I → Option R) : Option R :=
  match op, x with
  | .not, .y (.one (.bool b)) => K (.bool b.not)
  | .neg, .y (.one (.int k n)) => K (.int k (k.wrap (0 - n)))
  | .xor, .y (.one (.int k n)) => K (.int k (Go.bits .xor k (if k.signed then -1 else k.max) n))
  | _, _ => none
def nums (e : Nat) (l : List (I e)) : Option (List Int) := (T.u8 e).map fun q => q.2 l
def convert (src dst : TypeId) (x : X I) (K : C I → Option R) : Option R :=
  match P.underlying src, P.underlying dst, x with
  | some (.int _), some (.int k), .y (.one (.int _ n)) => K (.int k (k.wrap n))
  | some .string, some .string, .y (.one (.str s)) => K (.str s)
  | some (.slice e), some .string, .y (.one c) =>
    (match P.underlying e, listOf e c with
     | some (.int .u8), some l => (match nums T e l with | some l => K (.str (strOf l)) | none => none)
     | _, _ => none)
  | some .string, some (.slice e), .y (.one (.str s)) =>
    (match P.underlying e, T.u8 e with
     | some (.int .u8), some q => if s.size ≤ 140737488355328 then K (.sl e (q.1 (bytesOf s))) else none
     | _, _ => none)
  | _, _, _ => none
/-- How many elements an append may come to. -/
def most (e : Nat) : Nat := 140737488355328 / (max 1 (bytesOfT P e))
/-- The zero of an element's type has its cells. -/
def okE (P : Program) (e : Nat) : Bool := match P.info? e with | some i => (match i.zero with | some z => z.cells.size == i.size | none => false) | none => false
/-- What is laid behind, as a list. -/
def itemsOf (e : Nat) : X I → Option (List (I e))
  | .y (.one (.str s)) => (match T.u8 e with | some q => some (q.1 (bytesOf s)) | none => none)
  | .y (.one d) => listOf e d
  | _ => none
def append (e : Nat) (x y : X I) (K : C I → Option R) : Option R :=
  if okE P e = true then
    match x, y with
    | .y (.one (.own e0 l0)), y =>
      (match castL (e' := e) l0, itemsOf T e y with
       | some l, some m => if l.length + m.length ≤ most P e then K (.own e (l ++ m)) else none
       | _, _ => none)
    | .y (.one c), .y (.one (.lit e' z)) =>
      (match accOf e c, castE (e' := e) z with
       | some l, some z => if l.length < most P e then K (.acc e (l ++ [z])) else none
       | _, _ => none)
    | .y (.one c), .y (.one (.str s)) =>
      (match accOf e c, T.u8 e with
       | some l, some q => if l.length + s.size < most P e then K (.acc e (l ++ q.1 (bytesOf s))) else none
       | _, _ => none)
    | .y (.one c), .y (.one d) =>
      (match accOf e c, listOf e d with
       | some l, some m => if l.length + m.length < most P e then K (.acc e (l ++ m)) else none
       | _, _ => none)
    | _, _ => none
  else none

/-- Cells within cells. -/
def part (cs : List (C I)) (off n : Nat) : Option (List (C I)) := if off + n ≤ cs.length then some ((cs.drop off).take n) else none
def splice (cs : List (C I)) (off : Nat) (vs : List (C I)) : Option (List (C I)) := if off + vs.length ≤ cs.length then some (cs.take off ++ vs ++ cs.drop (off + vs.length)) else none
def yCells : X I → Option (List (C I))
  | .y (.one c) => some [c]
  | .y (.agg cs) => some (cs.map C.weak)
  | _ => none
def mkY (t : TypeId) (cs : List (C I)) : Option (Y I) := if aggT P t then some (.agg cs) else match cs with | [c] => some (.one c) | _ => none
/-- The operand's slot without its right. -/
def drop (fr : Fr I) : Operand → Fr I
  | .tmp t => fr.put t (fr.get t).weak
  | _ => fr
/-- A value of one cell that holds no address. -/
def plainX : X I → Bool
  | .y (.one (.int _ _)) => true
  | .y (.one (.str _)) => true
  | .y (.one (.bool _)) => true
  | _ => false
def loadAt (tk : Bool) (fr : Fr I) (H : Hp I) (t : TypeId) (a : X I) (K : Kont I R) : Option R :=
  match cellsOf P t, a with
  | some n, .y (.one (.ptr o off)) =>
    (match H[o]? with
     | some (.var cs) =>
       (match part cs off n with
        | some vs => (match mkY P t (if tk then vs else vs.map C.weak) with
          | some v => K (.y v) fr (if tk then H.set o (.var (cs.take off ++ vs.map C.weak ++ cs.drop (off + n))) else H)
          | none => none)
        | none => none)
     | _ => none)
  | some n, .ep cs off =>
    (match part cs off n with
     | some vs => (match mkY P t vs with | some v => K (.y v) fr H | none => none)
     | none => none)
  | some n, .rp o e i off =>
    (match rowOf H o e with
     | some l => (match part (T.cells e (l.getD i (T.dft e))) off n with
       | some vs => (match mkY P t vs with | some v => K (.y v) fr H | none => none)
       | none => none)
     | none => none)
  | _, _ => none
def storeAt (fr : Fr I) (H : Hp I) (t : TypeId) (a v : X I) (K : Fr I → Hp I → Option R) : Option R :=
  match cellsOf P t, a, yCells v with
  | some n, .y (.one (.ptr o off)), some vs =>
    if vs.length = n then
      (match H[o]? with
       | some (.var cs) => (match splice cs off vs with | some cs => K fr (H.set o (.var cs)) | none => none)
       | _ => none)
    else none
  | some n, .rp o e i off, some vs =>
    if vs.length = n then
      (match rowOf H o e with
       | some l => (match (splice (T.cells e (l.getD i (T.dft e))) off (vs.map C.weak)).bind (T.of e) with
         | some x => K fr (H.set o (.row e (l.set i x)))
         | none => none)
       | none => none)
    else none
  | _, _, _ => none
/-- The parts of a struct laid over its zero cells. -/
def fill (place : Nat → Option (Nat × Nat)) : List (C I) → List (Nat × X I) → Option (List (C I))
  | cs, [] => some cs
  | cs, (i, x) :: ps =>
    match place i, yCells x with
    | some (off, n), some vs => if vs.length = n then (splice cs off (vs.map C.weak)).bind fun cs => fill place cs ps else none
    | _, _ => none
def fieldOf (t : TypeId) (f : Nat) : Option Field := match P.underlying t with | some (.struct fs) => fs[f]? | _ => none
def places (fs : List Field) : Option (List (Nat × Nat)) := fs.mapM fun f => (cellsOf P f.type).map fun n => (f.offset, n)
def build (t : TypeId) (ps : List (Nat × X I)) : Option (List (C I)) :=
  match P.underlying t, (zeroOf P t : Option (List (C I))) with
  | some (.struct fs), some z => (match places P fs.toList with | some pl => fill (fun i => pl[i]?) z ps | none => none)
  | _, _ => none
/-- Cells as elements. -/
def elems (e n : Nat) (cs : List (C I)) : Option (List (I e)) := (List.range n).mapM fun j => T.of e ((cs.drop (j * T.sz e)).take (T.sz e))
def buildSlice (t : TypeId) (len : Nat) (ps : List (Nat × X I)) : Option (C I) :=
  match P.underlying t with
  | some (.slice e) =>
    (match cellsOf P e, (zeroOf P e : Option (List (C I))) with
     | some sz, some z =>
       if len * sz ≤ 16777216 ∧ 0 < len * sz ∧ z.length = sz then
         (match (fill (fun i => some (i * sz, sz)) (List.replicate len z).flatten ps).bind (elems T e len) with
          | some [x] => some (.lit e x)
          | some l => some (.acc e l)
          | none => none)
       else none
     | _, _ => none)
  | _ => none
def indexAddr (H : Hp I) (t : TypeId) (x i : X I) (K : X I → Option R) : Option R :=
  match P.underlying t, x, i with
  | some (.slice e), .rs o e', .y (.one (.int _ i)) =>
    (match rowOf H o e, cellsOf P e with
     | some l, some _ => if e = e' then if 0 ≤ i then if i < (l.length : Int) then K (.rp o e i.toNat 0) else none else none else none
     | _, _ => none)
  | some (.slice e), .y (.one c), .y (.one (.int _ i)) =>
    (match listOf e c, cellsOf P e with
     | some l, some _ => if 0 ≤ i then if i < (l.length : Int) then K (.ep (T.cells e (rd (T.dft e) l i)) 0) else none else none
     | _, _ => none)
  | some (.array n e), .y (.one (.ptr o 0)), .y (.one (.int _ i)) =>
    (match rowOf H o e, cellsOf P e with
     | some l, some _ => if 0 ≤ i then if i < (n : Int) then if i < (l.length : Int) then K (.rp o e i.toNat 0) else none else none else none
     | _, _ => none)
  | some (.array n e), .ip e' l, .y (.one (.int _ i)) =>
    (match castL (e' := e) l, cellsOf P e with
     | some l, some _ => if 0 ≤ i then if i < (n : Int) then if i < (l.length : Int) then K (.ep (T.cells e (rd (T.dft e) l i)) 0) else none else none else none
     | _, _ => none)
  | _, _, _ => none
def bound (x : Option (X I)) (least most : Int) (dflt : Int) (K : Int → Option R) : Option R :=
  match x with
  | none => K dflt
  | some (.y (.one (.int _ n))) => if least ≤ n then if n ≤ most then K n else none else none
  | _ => none
def sliceOp (H : Hp I) (t : TypeId) (x : X I) (lo hi mx : Option (X I)) (K : X I → Option R) : Option R :=
  match P.underlying t, x, mx with
  | some .string, .y (.one (.str s)), none =>
    bound hi 0 (s.size : Int) (s.size : Int) fun h => bound lo 0 h 0 fun l => K (.c (.str (s.extract l.toNat h.toNat)))
  | some (.slice e), .y (.one c), none =>
    (match (cellsOf P e).bind fun _ => listOf e c with
     | some xs => bound hi 0 (xs.length : Int) (xs.length : Int) fun h => bound lo 0 h 0 fun l => K (.c (.sl e (slc xs l h)))
     | none => none)
  | _, _, _ => none
def capOf : X I → Option (C I)
  | .y (.one c) => some c.weak
  | _ => none
def boolOf : X I → Option Bo
  | .y (.one (.bool b)) => some b
  | _ => none

def zero1 (e : TypeId) : Option (C I) := ((P.info? e).bind (·.zero)).bind cOf
def lookupAt (H : Hp I) (t : TypeId) (m x : X I) (ok : Bool) (K : X I → Option R) : Option R :=
  match P.underlying t, m, x with
  | some (.map k e), .y (.one (.map o)), .y (.one c) =>
    (match H[o]?, kdOf P k, (zero1 P e : Option (C I)).bind (fun c => T.of e [c]) with
     | some (.map kd k' e' l), some kd', some z =>
       (match castM (k' := k) (e' := e) l with
        | some l =>
          if (decide (kd = kd') && isKd kd c) = true then
            (match T.cells e ((mget (keq T k c) l).getD z) with
             | [v] => if ok = true then K (.tup [.one v, .one (.bool (.b (mget (keq T k c) l).isSome))]) else K (.c v)
             | _ => none)
          else none
        | none => none)
     | _, _, _ => none)
  | _, _, _ => none
def updateAt (fr : Fr I) (H : Hp I) (t : TypeId) (m x v : X I) (K : Fr I → Hp I → Option R) : Option R :=
  match P.underlying t, m, x, v with
  | some (.map k e), .y (.one (.map o)), .y (.one c), .y (.one d) =>
    (match H[o]?, kdOf P k, T.of k [c.weak], T.of e [d.weak] with
     | some (.map kd k' e' l), some kd', some a, some b =>
       (match castM (k' := k) (e' := e) l with
        | some l => if (decide (kd = kd') && isKd kd c) = true then K fr (H.set o (.map kd k e (mput (keq T k c) a b l))) else none
        | none => none)
     | _, _, _, _ => none)
  | _, _, _, _ => none
def deleteAt (H : Hp I) (t : TypeId) (m x : X I) (K : Hp I → Option R) : Option R :=
  match P.underlying t, m, x with
  | some (.map k e), .y (.one (.map o)), .y (.one c) =>
    (match H[o]?, kdOf P k with
     | some (.map kd k' e' l), some kd' =>
       (match castM (k' := k) (e' := e) l with
        | some l => if (decide (kd = kd') && isKd kd c) = true then K (H.set o (.map kd k e (mdel (keq T k c) l))) else none
        | none => none)
     | _, _ => none)
  | _, _, _ => none
def clearAt (H : Hp I) (t : TypeId) (m : X I) (K : Hp I → Option R) : Option R :=
  match P.underlying t, m with
  | some (.map _ _), .y (.one (.map o)) =>
    (match H[o]? with
     | some (.map kd k e _) => K (H.set o (.map kd k e []))
     | _ => none)
  | _, _ => none
def lenAt (H : Hp I) (t : TypeId) (x : X I) (K : X I → Option R) : Option R :=
  match P.underlying t, x with
  | some .string, .y (.one (.str s)) => K (.c (.int .i64 (s.size : Int)))
  | some (.array n _), _ => K (.c (.int .i64 (n : Int)))
  | some (.slice e), .rs o e' => (match rowOf H o e' with | some l => K (.c (.int .i64 (l.length : Int))) | _ => none)
  | some (.slice e), .y (.one c) => (match listOf e c with | some l => K (.c (.int .i64 (l.length : Int))) | none => none)
  | some (.map _ _), .y (.one (.map o)) => (match H[o]? with | some (.map _ _ _ l) => K (.c (.int .i64 (l.length : Int))) | _ => none)
  | _, _ => none

/-- One operation that calls no Go function. 'tk': what is read is taken, with its right. -/
def evOp (tk : Bool) (fr : Fr I) (H : Hp I) (o : Op) (K : Kont I R) : Option R :=
  match o with
  | .move x | .assign x => if tk then K (ev T fr x) (drop fr x) H else K (ev T fr x).weak fr H
  | .pick c a b =>
    match boolOf (ev T fr c) with
    | some q => q.ite (K (ev T fr a).weak fr H) (K (ev T fr b).weak fr H)
    | none => none
  | .alloc t =>
    match P.underlying t, (zeroOf P t : Option (List (C I))) with
    | some (.array n e), some z => if z.length = n * T.sz e then (match elems T e n z with | some l => K (.c (.ptr H.length 0)) fr (H ++ [.row e l]) | none => none) else none
    | some _, some z => K (.c (.ptr H.length 0)) fr (H ++ [.var z])
    | _, _ => none
  | .box t x =>
    match P.underlying t, yCells (ev T fr x) with
    | some (.array _ _), _ => none
    | _, some vs => K (.c (.ptr H.length 0)) (drop fr x) (H ++ [.var vs])
    | _, _ => none
  | .build t ps => match build P t (ps.toList.map fun p => (p.1, ev T fr p.2)) with | some cs => K (.y (.agg cs)) fr H | none => none
  | .buildSlice t n ps => match buildSlice P T t n (ps.toList.map fun p => (p.1, ev T fr p.2)) with | some c => K (.c c) fr H | none => none
  | .load t a => match P.underlying t with | some _ => loadAt P T tk fr H t (ev T fr a) K | none => none
  | .store t a v => storeAt P T (drop fr v) H t (ev T fr a) (ev T fr v) fun fr H => K .dead fr H
  | .nilCheck x => match ev T fr x with | .y (.one (.ptr o off)) => K (.c (.ptr o off)) fr H | _ => none
  | .binOp op t x y _ => binOp P op t (ev T fr x) (ev T fr y) fun c => K (.c c) fr H
  | .unOp op _ x => unOp op (ev T fr x) fun c => K (.c c) fr H
  | .convert s d x => convert P T s d (ev T fr x) fun c => K (.c c) fr H
  | .makeFunc (.func f) first cs =>
    if first.isEmpty then
      (match cs.toList.mapM (fun x => capOf (ev T fr x)) with
       | some caps => K (.fn f caps) fr H
       | none => none)
    else none
  | .makeSlice t (.tmp n) (.tmp m) =>
    if n = m then
      (match P.underlying t, fr.get n with
       | some (.slice e), .y (.one (.int .i64 n)) =>
         (match (zeroOf P e : Option (List (C I))) with
          | some z => (match T.of e z with
            | some x => if 0 ≤ n then if n.toNat < most P e then K (.rs H.length e) fr (H ++ [.row e (List.replicate n.toNat x)]) else none else none
            | none => none)
          | none => none)
       | _, _ => none)
    else none
  | .makeMap t none =>
    match P.underlying t with
    | some (.map k e) => (match kdOf P k with | some kd => K (.c (.map H.length)) fr (H ++ [.map kd k e []]) | none => none)
    | _ => none
  | .lookup t m x ok => lookupAt P T H t (ev T fr m) (ev T fr x) ok fun x => K x fr H
  | .mapUpdate t m x v => updateAt P T (drop fr v) H t (ev T fr m) (ev T fr x) (ev T fr v) fun fr H => K .dead fr H
  | .slice t x lo hi mx => sliceOp P H t (ev T fr x) (lo.map (ev T fr)) (hi.map (ev T fr)) (mx.map (ev T fr)) fun x => K x fr H
  | .fieldAddr s x f =>
    match fieldOf P s f, ev T fr x with
    | some fd, .y (.one (.ptr o off)) => if (cellsOf P fd.type).getD 0 = 0 then none else K (.c (.ptr o (off + fd.offset))) fr H
    | some fd, .ep cs off => if (cellsOf P fd.type).getD 0 = 0 then none else K (.ep cs (off + fd.offset)) fr H
    | some fd, .rp o e i off => if (cellsOf P fd.type).getD 0 = 0 then none else K (.rp o e i (off + fd.offset)) fr H
    | _, _ => none
  | .field t x f =>
    match fieldOf P t f, ev T fr x with
    | some fd, .y (.agg cs) =>
      (match cellsOf P fd.type with
       | some n => (match part cs fd.offset n with
         | some vs => if n = 0 then none else (match P.underlying fd.type, mkY P fd.type (vs.map C.weak) with | some _, some v => K (.y v) fr H | _, _ => none)
         | none => none)
       | none => none)
    | _, _ => none
  | .indexAddr t x i => indexAddr P T H t (ev T fr x) (ev T fr i) fun x => K x fr H
  | .index t x i =>
    match P.underlying t, ev T fr x, ev T fr i with
    | some .string, .y (.one (.str s)), .y (.one (.int _ i)) => if 0 ≤ i then if i < (s.size : Int) then K (.c (.int .u8 (bt s i))) fr H else none else none
    | _, _, _ => none
  | .extract t i => match ev T fr t with | .tup vs => (match vs[i]? with | some v => K (.y v.weak) fr H | none => none) | _ => none
  | .call { callee := .builtin b, args, argTypes } =>
    match b, args.toList, argTypes.toList with
    | .len, [x], [t] => lenAt P H t (ev T fr x) fun x => K x fr H
    | .delete, [m, x], [t, _] => deleteAt P T H t (ev T fr m) (ev T fr x) fun H => K .dead fr H
    | .clear, [m], [t] => clearAt P H t (ev T fr m) fun H => K .dead fr H
    | .append, [x, y], [t, u] =>
      (match P.underlying t, P.underlying u with
       | some (.slice e), some (.slice _) => append P T e (ev T fr x) (ev T fr y) fun c => K (.c c) (drop fr x) H
       | some (.slice e), some .string => append P T e (ev T fr x) (ev T fr y) fun c => K (.c c) (drop fr x) H
       | _, _ => none)
    | _, _, _ => none
  | _ => none
end
end Go.Proofs.YtgefikclhfjcgaaDoorEv

namespace Go.Proofs.YtgefikclhfjcgaaDoorEv
open Go Go.RowKit
set_option linter.unusedVariables false

section
variable {I : Nat → Type} (P : Program) (T : Ty I)

/-- A value that holds no right and no address of a variable of the call. 'E b': so many cells of block b nobody writes any more. -/
inductive RepC (w : World) (E : Nat → Nat) : Value → C I → Prop
  | int (k : IntKind) (n : Int) : RepC w E (.int k n) (.int k n)
  | bool (b : Bo) : RepC w E (.bool b.get) (.bool b)
  | str (s : ByteArray) : RepC w E (.string s) (.str s)
  | nils : RepC w E (.slice none 0 0) .nils
  | nilsl (e : Nat) (a : Option Addr) : RepC w E (.slice a 0 0) (.sl e [])
  | nilp : RepC w E (.pointer none) .nilp
  | dead (v : Value) (hv : v.oneCell' = true) : RepC w E v .dead
  | sl (e : Nat) (l : List (I e)) (b off cap : Nat) (val : Nat → Nat → Value) (hE : off + l.length * T.sz e ≤ E b) (hcap : l.length ≤ cap)
      (hc : ∀ (i : Nat) (x : I e), l[i]? = some x → ∀ (j : Nat) (c : C I), (T.cells e x)[j]? = some c → w.cell? ⟨b, off + (i * T.sz e + j), none⟩ = some (val i j))
      (hr : ∀ (i : Nat) (x : I e), l[i]? = some x → ∀ (j : Nat) (c : C I), (T.cells e x)[j]? = some c → RepC w E (val i j) c) :
      RepC w E (.slice (some ⟨b, off, none⟩) l.length cap) (.sl e l)

/-- The right to write behind a slice: its spare cells are there, and nobody else looks at them. -/
def Tok (w : World) (E : Nat → Nat) (sz : Nat) : Value → Prop
  | .slice (some a) len cap => len < cap → E a.block = a.off + len * sz ∧ ∃ arr ty, w.heap[a.block]? = some (.cells arr ty (0, 0)) ∧ a.off + cap * sz ≤ arr.size
  | _ => True

def RepT (φ : List Nat) (w : World) (E : Nat → Nat) (v : Value) : C I → Prop
  | .acc e l => RepC T w E v (.sl e l) ∧ Tok w E (T.sz e) v
  | .lit e x => RepC T w E v (.sl e [x]) ∧ Tok w E (T.sz e) v
  | .ptr o off => ∃ b, φ[o]? = some b ∧ v = .pointer (some ⟨b, off, none⟩)
  | .map o => ∃ b, φ[o]? = some b ∧ v = .map (some b)
  | .own e l => (l = [] ∧ ∃ a, v = .slice a 0 0) ∨ ∃ (b cap : Nat) (arr : Array Value) (ty : TypeId), v = .slice (some ⟨b, 0, none⟩) l.length cap ∧ 0 < l.length ∧ l.length ≤ cap ∧ E b = 0 ∧ w.heap[b]? = some (.cells arr ty (0, 0)) ∧ cap * T.sz e ≤ arr.size ∧
      ∀ (i : Nat) (x : I e), l[i]? = some x → ∀ (j : Nat) (c : C I), (T.cells e x)[j]? = some c → ∃ u, arr[i * T.sz e + j]? = some u ∧ RepC T w E u c
  | c => RepC T w E v c

def tokV : Value → Option Nat
  | .slice (some a) len cap => if len < cap then some a.block else none
  | _ => none
/-- A slice with cells: whole of it. -/
def tokW : Value → Option Nat
  | .slice (some a) _ cap => if 0 < cap then some a.block else none
  | _ => none
def tokC (v : Value) : C I → Option Nat
  | .acc _ _ | .lit _ _ => tokV v
  | .own _ _ => tokW v
  | _ => none

def RepY (φ : List Nat) (w : World) (E : Nat → Nat) (v : Value) : Y I → Prop
  | .one c => RepT T φ w E v c
  | .agg cs => ∃ arr, v = .agg arr ∧ arr.size = cs.length ∧ ∀ (j : Nat) (c : C I), cs[j]? = some c → ∃ u, arr[j]? = some u ∧ RepT T φ w E u c.weak

def rowAt (H : Hp I) (o : Nat) : Option (Nat × Nat) := match H[o]? with | some (.row e l) => some (e, l.length) | _ => none

/-- A block of cells has room for so many. -/
def Room (w : World) (b n : Nat) : Prop := ∃ arr ty, w.heap[b]? = some (.cells arr ty (0, 0)) ∧ n ≤ arr.size

def RepX (φ : List Nat) (H : Hp I) (w : World) (E : Nat → Nat) (v : Value) : X I → Prop
  | .y y => RepY T φ w E v y
  | .tup vs => ∃ arr, v = .tuple arr ∧ arr.size = vs.length ∧ ∀ (j : Nat) (y : Y I), vs[j]? = some y → ∃ u, arr[j]? = some u ∧ RepY T φ w E u y.weak
  | .ep cs off => ∃ b o, v = .pointer (some ⟨b, o + off, none⟩) ∧ ∀ (j : Nat) (c : C I), cs[j]? = some c → o + j < E b ∧ ∃ u, w.cell? ⟨b, o + j, none⟩ = some u ∧ RepC T w E u c
  | .fn f caps => ∃ arr, v = .func (.func f) #[] arr ∧ arr.size = caps.length ∧ ∀ (j : Nat) (c : C I), caps[j]? = some c → ∃ u, arr[j]? = some u ∧ RepT T φ w E u c.weak
  | .rp o e i off => ∃ b n, φ[o]? = some b ∧ rowAt H o = some (e, n) ∧ i < n ∧ v = .pointer (some ⟨b, i * T.sz e + off, none⟩)
  | .rs o e => ∃ n, rowAt H o = some (e, n) ∧ ((n = 0 ∧ ∃ a, v = .slice a 0 0) ∨ ∃ b cap, φ[o]? = some b ∧ v = .slice (some ⟨b, 0, none⟩) n cap ∧ 0 < n ∧ n ≤ cap ∧ Room w b (cap * T.sz e))
  | .ip e l => ∃ b, v = .pointer (some ⟨b, 0, none⟩) ∧ RepC T w E (.slice (some ⟨b, 0, none⟩) l.length l.length) (.sl e l)
  | .dead => True

def tokX (v : Value) : X I → Option Nat
  | .y (.one c) => tokC v c
  | _ => none

def RepO (φ : List Nat) (w : World) (E : Nat → Nat) (b : Nat) : O I → Prop
  | .var cs => ∃ arr ty, w.heap[b]? = some (.cells arr ty (0, 0)) ∧ arr.size = cs.length ∧ ∀ (j : Nat) (c : C I), cs[j]? = some c → ∃ u, arr[j]? = some u ∧ RepT T φ w E u c
  | .row e l => l = [] ∨ ∃ arr ty, w.heap[b]? = some (.cells arr ty (0, 0)) ∧ l.length * T.sz e ≤ arr.size ∧
      ∀ (i : Nat) (x : I e), l[i]? = some x → ∀ (j : Nat) (c : C I), (T.cells e x)[j]? = some c → ∃ u, arr[i * T.sz e + j]? = some u ∧ RepC T w E u c
  | .map kd k e l => ∃ es clock, w.heap[b]? = some (.map es clock) ∧ es.size = l.length ∧ ∀ (i : Nat) (p : I k × I e), l[i]? = some p →
      ∃ m d c, es[i]? = some m ∧ T.cells k p.1 = [d] ∧ isKd kd d = true ∧ RepC T w E m.key d ∧ T.cells e p.2 = [c] ∧ RepC T w E m.val c
  | .gone => True

/-- Who holds a right: a slot, or a cell of a variable. -/
inductive Ow : Type
  | slot (t : Nat)
  | cell (o j : Nat)

def tokOf (φ : List Nat) (H : Hp I) (w : World) (fr : Fr I) (tm : Array Value) : Ow → Option Nat
  | .slot t => tokX (tm.getD t undef) (fr.get t)
  | .cell o j => match φ[o]?, H[o]? with
    | some b, some (.var cs) => (match cs[j]?, w.cell? ⟨b, j, none⟩ with | some c, some u => tokC u c | _, _ => none)
    | _, _ => none

/-- A variable whose block is its own. -/
def live (H : Hp I) (o : Nat) : Prop := H[o]? ≠ some .gone ∧ ∀ e, H[o]? ≠ some (.row e [])

structure Sim (φ : List Nat) (E : Nat → Nat) (w : World) (fr : Fr I) (H : Hp I) (tm : Array Value) : Prop where
  len : φ.length = H.length
  objs : ∀ (o b : Nat) ob, φ[o]? = some b → H[o]? = some ob → RepO T φ w E b ob
  slots : ∀ t, RepX T φ H w E (tm.getD t undef) (fr.get t)
  flen : fr.length ≤ tm.size
  inj : ∀ (o o' b : Nat), φ[o]? = some b → φ[o']? = some b → live H o → live H o' → o = o'
  zero : ∀ (o b : Nat), φ[o]? = some b → (live H o → E b = 0) ∧ b < w.heap.size
  fresh : ∀ b, w.heap.size ≤ b → E b = 0
  tinj : ∀ i j b, tokOf φ H w fr tm i = some b → tokOf φ H w fr tm j = some b → i = j
  tobj : ∀ i b (o : Nat), tokOf φ H w fr tm i = some b → live H o → φ[o]? ≠ some b
  tlt : ∀ i b, tokOf φ H w fr tm i = some b → b < w.heap.size
  glob : ∀ (g : Nat) x, T.glob g = some x → ∃ (e : Nat) (l : List (I e)), x = .ip e l ∧ RepC T w E (.slice (some ⟨g, 0, none⟩) l.length l.length) (.sl e l)

/-- What a state may write: its variables and what it holds the right to. -/
def Own (φ : List Nat) (H : Hp I) (w : World) (fr : Fr I) (tm : Array Value) (b : Nat) : Prop :=
  (∃ o : Nat, live H o ∧ φ[o]? = some b) ∨ ∃ i, tokOf φ H w fr tm i = some b

/-- The same, of the variables of S alone. -/
def OwnS (S : Nat → Prop) (φ : List Nat) (H : Hp I) (w : World) (fr : Fr I) (tm : Array Value) (b : Nat) : Prop :=
  (∃ o : Nat, S o ∧ live H o ∧ φ[o]? = some b) ∨ ∃ i, tokOf φ H w fr tm i = some b
theorem OwnS.own {S : Nat → Prop} {φ : List Nat} {H : Hp I} {w : World} {fr : Fr I} {tm : Array Value} {b : Nat} (h : OwnS S φ H w fr tm b) : Own φ H w fr tm b := h.imp (fun ⟨o, _, q⟩ => ⟨o, q⟩) id

/-- Nothing turned but blocks of D, and of them nothing that nobody writes. -/
structure Ch (D : Nat → Prop) (w : World) (E : Nat → Nat) (w' : World) (E' : Nat → Nat) : Prop where
  os : w'.os = w.os
  tape : w'.tape = w.tape
  output : w'.output = w.output
  size : w.heap.size ≤ w'.heap.size
  keep : ∀ b, b < w.heap.size → ¬ D b → w'.heap[b]? = w.heap[b]? ∧ E' b = E b
  ext : ∀ b, E b ≤ E' b
  cells : ∀ b off, off < E b → w'.cell? ⟨b, off, none⟩ = w.cell? ⟨b, off, none⟩
  fresh : ∀ b, w'.heap.size ≤ b → E' b = 0
  blk : ∀ b n, Room w b n → Room w' b n
end

section
variable {I : Nat → Type} {P : Program} {T : Ty I} {D : Nat → Prop} {w w' : World} {E E' : Nat → Nat} {φ φ' : List Nat}

theorem Ch.refl (w : World) (E : Nat → Nat) (hf : ∀ b, w.heap.size ≤ b → E b = 0) (D : Nat → Prop) : Ch D w E w E :=
  ⟨rfl, rfl, rfl, Nat.le_refl _, fun _ _ _ => ⟨rfl, rfl⟩, fun _ => Nat.le_refl _, fun _ _ _ => rfl, hf, fun _ _ q => q⟩

theorem Ch.trans {D1 D2 : Nat → Prop} {w1 w2 w3 : World} {E1 E2 E3 : Nat → Nat} (h : Ch D1 w1 E1 w2 E2) (k : Ch D2 w2 E2 w3 E3)
    (hd : ∀ b, b < w1.heap.size → D2 b → D1 b) : Ch D1 w1 E1 w3 E3 where
  os := k.os.trans h.os
  tape := k.tape.trans h.tape
  output := k.output.trans h.output
  size := Nat.le_trans h.size k.size
  keep b hb hn := by
    have h1 := h.keep b hb hn
    have h2 := k.keep b (Nat.lt_of_lt_of_le hb h.size) (fun x => hn (hd b hb x))
    exact ⟨h2.1.trans h1.1, h2.2.trans h1.2⟩
  ext b := Nat.le_trans (h.ext b) (k.ext b)
  cells b off ho := (k.cells b off (Nat.lt_of_lt_of_le ho (h.ext b))).trans (h.cells b off ho)
  fresh := k.fresh
  blk b n q := k.blk b n (h.blk b n q)

theorem Ch.mono {D D' : Nat → Prop} (h : Ch D w E w' E') (hd : ∀ b, b < w.heap.size → D b → D' b) : Ch D' w E w' E' :=
  ⟨h.os, h.tape, h.output, h.size, fun b hb hn => h.keep b hb (fun x => hn (hd b hb x)), h.ext, h.cells, h.fresh, h.blk⟩

theorem cell_of_block {w w' : World} {b : Nat} (h : w'.heap[b]? = w.heap[b]?) (off : Nat) : w'.cell? ⟨b, off, none⟩ = w.cell? ⟨b, off, none⟩ := by
  simp only [World.cell?, h]
theorem frozen_of_block {w w' : World} {b : Nat} (h : w'.heap[b]? = w.heap[b]?) (off : Nat) : w'.frozen? ⟨b, off, none⟩ = w.frozen? ⟨b, off, none⟩ := by
  simp only [World.frozen?, h]

theorem cells_lt (hT : ∀ e (x : I e), (T.cells e x).length = T.sz e) {e : Nat} {l : List (I e)} {i j : Nat} {x : I e} {c : C I} (hi : l[i]? = some x) (hj : (T.cells e x)[j]? = some c) :
    i * T.sz e + j < l.length * T.sz e := by
  have h1 := (List.getElem?_eq_some_iff.1 hi).1
  have h2 := (List.getElem?_eq_some_iff.1 hj).1
  rw [hT] at h2
  calc i * T.sz e + j < i * T.sz e + T.sz e := by omega
    _ = (i + 1) * T.sz e := by rw [Nat.add_mul]; omega
    _ ≤ l.length * T.sz e := Nat.mul_le_mul_right _ h1

variable (hT : ∀ e (x : I e), (T.cells e x).length = T.sz e)
include hT

theorem RepC.ch {v : Value} {c : C I} (h : RepC T w E v c) (he : ∀ b, E b ≤ E' b) (hc : ∀ b off, off < E b → w'.cell? ⟨b, off, none⟩ = w.cell? ⟨b, off, none⟩) : RepC T w' E' v c := by
  induction h with
  | int k n => exact .int k n
  | bool b => exact .bool b
  | str s => exact .str s
  | nils => exact .nils
  | nilsl e a => exact .nilsl e a
  | nilp => exact .nilp
  | dead v hv => exact .dead v hv
  | sl e l b off cap val hE hcap hcc hr ih =>
    refine .sl e l b off cap val (Nat.le_trans hE (he b)) hcap (fun i x hi j c hj => ?_) ih
    rw [hc b _ (by have := cells_lt hT hi hj; omega)]
    exact hcc i x hi j c hj

theorem RepT.ch {v : Value} {c : C I} (h : RepT T φ w E v c) (hch : Ch D w E w' E') (hφ : ∀ (o b : Nat), φ[o]? = some b → φ'[o]? = some b)
    (ht : ∀ b, tokC v c = some b → ¬ D b) (hlt : ∀ b, tokC v c = some b → b < w.heap.size) : RepT T φ' w' E' v c := by
  have tok : ∀ e, (∀ a len cap, v = .slice (some a) len cap → len < cap → ¬ D a.block ∧ a.block < w.heap.size) → Tok w E (T.sz e) v → Tok w' E' (T.sz e) v := by
    intro e hd hk
    unfold Tok at hk ⊢
    split
    · rename_i a len cap
      intro hl
      obtain ⟨hd1, hd2⟩ := hd _ _ _ rfl hl
      obtain ⟨h1, arr, ty, h2, h3⟩ := hk hl
      obtain ⟨k1, k2⟩ := hch.keep _ hd2 hd1
      exact ⟨by rw [k2]; exact h1, arr, ty, k1.trans h2, h3⟩
    · trivial
  have dd : ∀ (hx : tokC v c = tokV v), ∀ a len cap, v = .slice (some a) len cap → len < cap → ¬ D a.block ∧ a.block < w.heap.size := by
    intro hx a len cap hv hl
    subst hv
    have : tokC (Value.slice (some a) len cap) c = some a.block := by rw [hx]; simp [tokV, hl]
    exact ⟨ht _ this, hlt _ this⟩
  cases c <;> simp only [RepT] at h ⊢
  case acc e l => exact ⟨h.1.ch hT hch.ext hch.cells, tok e (dd rfl) h.2⟩
  case lit e x => exact ⟨h.1.ch hT hch.ext hch.cells, tok e (dd rfl) h.2⟩
  case ptr o off => obtain ⟨b, hb, hv⟩ := h; exact ⟨b, hφ o b hb, hv⟩
  case map o => obtain ⟨b, hb, hv⟩ := h; exact ⟨b, hφ o b hb, hv⟩
  case own e l =>
    rcases h with h | ⟨b, cap, arr, ty, hv, h0, h1, h2, h3, h4, h5⟩
    · exact .inl h
    · have htk : tokC v (.own e l : C I) = some b := by rw [hv]; simp only [tokC, tokW]; rw [if_pos (by omega)]
      obtain ⟨k1, k2⟩ := hch.keep b (hlt b htk) (ht b htk)
      exact .inr ⟨b, cap, arr, ty, hv, h0, h1, by rw [k2]; exact h2, k1.trans h3, h4, fun i x hi j c hj => by
        obtain ⟨u, hu, hr⟩ := h5 i x hi j c hj
        exact ⟨u, hu, hr.ch hT hch.ext hch.cells⟩⟩
  all_goals exact h.ch hT hch.ext hch.cells

omit hT in
theorem tokC_weak (v : Value) (c : C I) : tokC v c.weak = none := by cases c <;> rfl

theorem RepT.ch_weak {v : Value} {c : C I} (h : RepT T φ w E v c.weak) (hch : Ch D w E w' E') (hφ : ∀ (o b : Nat), φ[o]? = some b → φ'[o]? = some b) : RepT T φ' w' E' v c.weak :=
  h.ch hT hch hφ (fun b hb => by rw [tokC_weak] at hb; cases hb) (fun b hb => by rw [tokC_weak] at hb; cases hb)

theorem RepY.ch {v : Value} {y : Y I} (h : RepY T φ w E v y) (hch : Ch D w E w' E') (hφ : ∀ (o b : Nat), φ[o]? = some b → φ'[o]? = some b)
    (ht : ∀ b, tokX v (.y y) = some b → ¬ D b) (hlt : ∀ b, tokX v (.y y) = some b → b < w.heap.size) : RepY T φ' w' E' v y := by
  cases y with
  | one c => exact RepT.ch hT h hch hφ ht hlt
  | agg cs =>
    obtain ⟨arr, hv, hs, hj⟩ := h
    exact ⟨arr, hv, hs, fun j c hc => by obtain ⟨u, hu, hr⟩ := hj j c hc; exact ⟨u, hu, hr.ch_weak hT hch hφ⟩⟩

omit hT in
theorem tokX_weak (v : Value) (y : Y I) : tokX v (.y y.weak) = none := by cases y with | one c => exact tokC_weak v c | agg cs => rfl

theorem RepX.ch {H H' : Hp I} {v : Value} {x : X I} (h : RepX T φ H w E v x) (hch : Ch D w E w' E') (hφ : ∀ (o b : Nat), φ[o]? = some b → φ'[o]? = some b)
    (hH : ∀ o r, rowAt H o = some r → rowAt H' o = some r)
    (ht : ∀ b, tokX v x = some b → ¬ D b) (hlt : ∀ b, tokX v x = some b → b < w.heap.size) : RepX T φ' H' w' E' v x := by
  cases x with
  | y y => exact RepY.ch hT h hch hφ ht hlt
  | tup vs =>
    obtain ⟨arr, hv, hs, hj⟩ := h
    exact ⟨arr, hv, hs, fun j y hc => by
      obtain ⟨u, hu, hr⟩ := hj j y hc
      exact ⟨u, hu, hr.ch hT hch hφ (fun b hb => by rw [tokX_weak] at hb; cases hb) (fun b hb => by rw [tokX_weak] at hb; cases hb)⟩⟩
  | ep cs off =>
    obtain ⟨b, o, hv, hj⟩ := h
    refine ⟨b, o, hv, fun j c hc => ?_⟩
    obtain ⟨h1, u, hu, hr⟩ := hj j c hc
    exact ⟨Nat.lt_of_lt_of_le h1 (hch.ext b), u, by rw [hch.cells b _ h1]; exact hu, hr.ch hT hch.ext hch.cells⟩
  | fn f caps =>
    obtain ⟨arr, hv, hs, hj⟩ := h
    exact ⟨arr, hv, hs, fun j c hc => by obtain ⟨u, hu, hr⟩ := hj j c hc; exact ⟨u, hu, hr.ch_weak hT hch hφ⟩⟩
  | rp o e i off =>
    obtain ⟨b, n, h1, h2, h3, h4⟩ := h
    exact ⟨b, n, hφ o b h1, hH o _ h2, h3, h4⟩
  | rs o e =>
    obtain ⟨n, h1, h2⟩ := h
    refine ⟨n, hH o _ h1, h2.imp id ?_⟩
    rintro ⟨b, cap, q1, q2, q3, q4, q5⟩
    exact ⟨b, cap, hφ o b q1, q2, q3, q4, hch.blk _ _ q5⟩
  | ip e l =>
    obtain ⟨b, hv, hr⟩ := h
    exact ⟨b, hv, hr.ch hT hch.ext hch.cells⟩
  | dead => exact trivial

theorem RepO.ch {b : Nat} {ob : O I} (h : RepO T φ w E b ob) (hch : Ch D w E w' E') (hφ : ∀ (o b : Nat), φ[o]? = some b → φ'[o]? = some b) (hb : b < w.heap.size) (hn : ¬ D b)
    (ht : ∀ cs, ob = .var cs → ∀ (j : Nat) c u, cs[j]? = some c → w.cell? ⟨b, j, none⟩ = some u → ∀ k, tokC u c = some k → ¬ D k ∧ k < w.heap.size) : RepO T φ' w' E' b ob := by
  obtain ⟨k1, _⟩ := hch.keep b hb hn
  cases ob with
  | var cs =>
    obtain ⟨arr, ty, h1, h2, h3⟩ := h
    refine ⟨arr, ty, k1.trans h1, h2, fun j c hc => ?_⟩
    obtain ⟨u, hu, hr⟩ := h3 j c hc
    have hcell : w.cell? ⟨b, j, none⟩ = some u := by simp [World.cell?, h1, hu]
    exact ⟨u, hu, hr.ch hT hch hφ (fun k hk => (ht cs rfl j c u hc hcell k hk).1) (fun k hk => (ht cs rfl j c u hc hcell k hk).2)⟩
  | row e l =>
    rcases h with h | ⟨arr, ty, h1, h2, h3⟩
    · exact .inl h
    refine .inr ⟨arr, ty, k1.trans h1, h2, fun i x hi j c hc => ?_⟩
    obtain ⟨u, hu, hr⟩ := h3 i x hi j c hc
    exact ⟨u, hu, hr.ch hT hch.ext hch.cells⟩
  | map kd k e l =>
    obtain ⟨es, clock, h1, h2, h3⟩ := h
    refine ⟨es, clock, k1.trans h1, h2, fun i p hp => ?_⟩
    obtain ⟨m, d, c, q1, q2, q3, q4, q5, q6⟩ := h3 i p hp
    exact ⟨m, d, c, q1, q2, q3, q4.ch hT hch.ext hch.cells, q5, q6.ch hT hch.ext hch.cells⟩
  | gone => exact trivial
end
end Go.Proofs.YtgefikclhfjcgaaDoorEv

namespace Go.Proofs.YtgefikclhfjcgaaDoorEv
open Go Go.RowKit
set_option linter.unusedVariables false
set_option linter.unusedSectionVars false
set_option linter.unusedSimpArgs false

section
variable {I : Nat → Type} {T : Ty I} {D : Nat → Prop} {w w' : World} {E E' : Nat → Nat} {φ φ' : List Nat} {fr fr' : Fr I} {H H' : Hp I} {tm : Array Value}

theorem getD_set (tm : Array Value) (t s : Nat) (v : Value) : (tm.setIfInBounds t v).getD s undef = if s = t ∧ t < tm.size then v else tm.getD s undef := by
  simp only [Array.getD_eq_getD_getElem?, Array.getElem?_setIfInBounds]
  by_cases h : t = s
  · subst h
    by_cases h2 : t < tm.size
    · simp [h2]
    · simp [h2]
  · have : ¬ s = t := fun e => h e.symm
    simp [h, this]

theorem get_put (fr : Fr I) (t s : Nat) (x : X I) : (fr.put t x).get s = if s = t ∧ t < fr.length then x else fr.get s := by
  simp only [Fr.get, Fr.put, List.getD_eq_getElem?_getD, List.getElem?_set]
  by_cases h : t = s
  · subst h
    by_cases h2 : t < fr.length
    · simp [h2]
    · simp [h2]
  · have : ¬ s = t := fun e => h e.symm
    simp [h, this]

theorem get_ge (fr : Fr I) (t : Nat) (h : fr.length ≤ t) : fr.get t = .dead := by
  simp [Fr.get, List.getD_eq_getElem?_getD, List.getElem?_eq_none h]

theorem live_var {H : Hp I} {o : Nat} {cs : List (C I)} (h : H[o]? = some (.var cs)) : live H o := ⟨by rw [h]; simp, fun e => by rw [h]; simp⟩
theorem live_map {H : Hp I} {o : Nat} {kd : Kd} {k e : Nat} {l : List (I k × I e)} (h : H[o]? = some (.map kd k e l)) : live H o := ⟨by rw [h]; simp, fun e => by rw [h]; simp⟩
theorem live_row {H : Hp I} {o e : Nat} {l : List (I e)} (h : H[o]? = some (.row e l)) (hl : l ≠ []) : live H o := ⟨by rw [h]; simp, fun e' q => by
  rw [h] at q
  injection q with q
  injection q with q1 q2
  subst q1
  exact hl (eq_of_heq q2)⟩
theorem live_app {H : Hp I} {o : Nat} {ob : O I} (ho : o < H.length) (h : live (H ++ [ob]) o) : live H o := by
  unfold live at h ⊢
  rw [List.getElem?_append_left ho] at h
  exact h
theorem live_ne {H : Hp I} {o o' : Nat} {ob : O I} (ho : o' ≠ o) (h : live (H.set o ob) o') : live H o' := by
  unfold live at h ⊢
  rw [List.getElem?_set_ne (fun q => ho q.symm)] at h
  exact h
theorem live_ne' {H : Hp I} {o o' : Nat} {ob : O I} (ho : o' ≠ o) (h : live H o') : live (H.set o ob) o' := by
  unfold live at h ⊢
  rw [List.getElem?_set_ne (fun q => ho q.symm)]
  exact h
theorem live_back {H : Hp I} {o i : Nat} {ob : O I} (hi : live H i) (h : live (H.set i ob) o) : live H o := by
  by_cases e : o = i
  · rw [e]; exact hi
  · exact live_ne e h
theorem repO_dead {H : Hp I} {o b : Nat} {ob : O I} (h : ¬ live H o) (hH : H[o]? = some ob) : RepO T φ w E b ob := by
  cases ob with
  | var cs => exact absurd (live_var hH) h
  | map kd k e l => exact absurd (live_map hH) h
  | row e l =>
    by_cases hl : l = []
    · exact .inl hl
    · exact absurd (live_row hH hl) h
  | gone => trivial

theorem Sim.slots' (h : Sim T φ E w fr H tm) (hl : fr'.length ≤ tm.size) (hr : ∀ t, RepX T φ H w E (tm.getD t undef) (fr'.get t))
    (ht : ∀ t b, tokX (tm.getD t undef) (fr'.get t) = some b → tokX (tm.getD t undef) (fr.get t) = some b) : Sim T φ E w fr' H tm := by
  have key : ∀ i b, tokOf φ H w fr' tm i = some b → tokOf φ H w fr tm i = some b := by
    intro i b hb
    cases i with
    | slot t => exact ht t b hb
    | cell o j => exact hb
  exact { len := h.len, objs := h.objs, slots := hr, flen := hl, inj := h.inj, zero := h.zero, fresh := h.fresh, glob := h.glob
          tinj := fun i j b hi hj => h.tinj i j b (key i b hi) (key j b hj), tobj := fun i b o hi => h.tobj i b o (key i b hi), tlt := fun i b hi => h.tlt i b (key i b hi) }

theorem Sim.put (h : Sim T φ E w fr H tm) (d : Nat) (v : Value) (x : X I) (hr : RepX T φ H w E v x)
    (ht : ∀ b, tokX v x = some b → (∀ i, tokOf φ H w fr tm i ≠ some b) ∧ (∀ o : Nat, live H o → φ[o]? ≠ some b) ∧ b < w.heap.size) : Sim T φ E w (fr.put d x) H (tm.setIfInBounds d v) := by
  have hval : ∀ t, ((tm.setIfInBounds d v).getD t undef = v ∧ (fr.put d x).get t = x ∧ t = d) ∨ ((tm.setIfInBounds d v).getD t undef = tm.getD t undef ∧ (fr.put d x).get t = fr.get t ∧ t ≠ d) ∨ (fr.put d x).get t = .dead := by
    intro t
    rw [getD_set, get_put]
    by_cases e : t = d
    · by_cases h1 : d < fr.length
      · have h2 := h.flen
        left; rw [if_pos ⟨e, by omega⟩, if_pos ⟨e, h1⟩]; exact ⟨rfl, rfl, e⟩
      · right; right; rw [if_neg (fun q => h1 q.2), e]; exact get_ge fr d (by omega)
    · right; left; rw [if_neg (fun q => e q.1), if_neg (fun q => e q.1)]; exact ⟨rfl, rfl, e⟩
  have key : ∀ i b, tokOf φ H w (fr.put d x) (tm.setIfInBounds d v) i = some b → (i = .slot d ∧ tokX v x = some b) ∨ (i ≠ .slot d ∧ tokOf φ H w fr tm i = some b) := by
    intro i b hb
    cases i with
    | cell o j => exact .inr ⟨by simp, hb⟩
    | slot t =>
      simp only [tokOf] at hb
      rcases hval t with ⟨h1, h2, h3⟩ | ⟨h1, h2, h3⟩ | h2
      · rw [h1, h2] at hb; exact .inl ⟨by rw [h3], hb⟩
      · rw [h1, h2] at hb; exact .inr ⟨by simpa using h3, hb⟩
      · rw [h2] at hb; cases hb
  refine { len := h.len, objs := h.objs, slots := ?_, flen := ?_, inj := h.inj, zero := h.zero, fresh := h.fresh, tinj := ?_, tobj := ?_, tlt := ?_, glob := h.glob }
  · intro t
    rcases hval t with ⟨h1, h2, _⟩ | ⟨h1, h2, _⟩ | h2
    · rw [h1, h2]; exact hr
    · rw [h1, h2]; exact h.slots t
    · rw [h2]; trivial
  · simp only [Fr.put, List.length_set, Array.size_setIfInBounds]; exact h.flen
  · intro i j b hi hj
    rcases key i b hi with ⟨e1, k1⟩ | ⟨e1, k1⟩ <;> rcases key j b hj with ⟨e2, k2⟩ | ⟨e2, k2⟩
    · rw [e1, e2]
    · exact absurd k2 ((ht b k1).1 j)
    · exact absurd k1 ((ht b k2).1 i)
    · exact h.tinj i j b k1 k2
  · intro i b o hi
    rcases key i b hi with ⟨e1, k1⟩ | ⟨e1, k1⟩
    · exact (ht b k1).2.1 o
    · exact h.tobj i b o k1
  · intro i b hi
    rcases key i b hi with ⟨e1, k1⟩ | ⟨e1, k1⟩
    · exact (ht b k1).2.2
    · exact h.tlt i b k1

variable (hT : ∀ e (x : I e), (T.cells e x).length = T.sz e)
include hT

/-- Memory beyond turns. -/
theorem Sim.world (h : Sim T φ E w fr H tm) (hch : Ch D w E w' E') (ht : ∀ i b, tokOf φ H w fr tm i = some b → ¬ D b) (ho : ∀ (o b : Nat), live H o → φ[o]? = some b → ¬ D b) : Sim T φ E' w' fr H tm := by
  have hb : ∀ (o b : Nat), live H o → φ[o]? = some b → w'.heap[b]? = w.heap[b]? := fun o b hl hb => (hch.keep b (h.zero o b hb).2 (ho o b hl hb)).1
  have key : ∀ i, tokOf φ H w' fr tm i = tokOf φ H w fr tm i := by
    intro i
    cases i with
    | slot t => rfl
    | cell o j =>
      simp only [tokOf]
      cases hφ : φ[o]? with
      | none => rfl
      | some b =>
        cases hH : H[o]? with
        | none => rfl
        | some x =>
          cases x with
          | var cs => simp only [cell_of_block (hb o b (live_var hH) hφ)]
          | _ => rfl
  refine { len := h.len, objs := ?_, slots := ?_, flen := h.flen, inj := h.inj, zero := ?_, fresh := hch.fresh, tinj := ?_, tobj := ?_, tlt := ?_, glob := ?_ }
  · intro o b ob hφ hH
    by_cases hl : live H o
    case neg => exact repO_dead hl hH
    refine (h.objs o b ob hφ hH).ch hT hch (fun _ _ q => q) (h.zero o b hφ).2 (ho o b hl hφ) ?_
    intro cs hob j c u hc hu k hk
    subst hob
    have e : tokOf φ H w fr tm (.cell o j) = some k := by simp only [tokOf, hφ, hH, hc, hu]; exact hk
    exact ⟨ht _ k e, h.tlt _ k e⟩
  · intro t
    exact (h.slots t).ch hT hch (fun _ _ q => q) (fun _ _ q => q) (fun b hb => ht (.slot t) b hb) (fun b hb => h.tlt (.slot t) b hb)
  · intro o b hφ
    have := h.zero o b hφ
    exact ⟨fun q => by rw [(hch.keep b this.2 (ho o b q hφ)).2]; exact this.1 q, Nat.lt_of_lt_of_le this.2 hch.size⟩
  · intro i j b hi hj; rw [key] at hi hj; exact h.tinj i j b hi hj
  · intro i b o hi; rw [key] at hi; exact h.tobj i b o hi
  · intro i b hi; rw [key] at hi; exact Nat.lt_of_lt_of_le (h.tlt i b hi) hch.size
  · intro g x hg
    obtain ⟨e, l, hx, hr⟩ := h.glob g x hg
    exact ⟨e, l, hx, hr.ch hT hch.ext hch.cells⟩

omit hT in
theorem Ch.alloc (w : World) (E : Nat → Nat) (hf : ∀ b, w.heap.size ≤ b → E b = 0) (o : Obj) (D : Nat → Prop) : Ch D w E (w.alloc o) E where
  os := rfl
  tape := rfl
  output := rfl
  size := by have := World.size_alloc w o; omega
  keep b hb _ := ⟨Below.heap_alloc w o b hb, rfl⟩
  ext _ := Nat.le_refl _
  cells b off ho := by
    have hb : b < w.heap.size := by
      rcases Nat.lt_or_ge b w.heap.size with h | h
      · exact h
      · rw [hf b h] at ho; omega
    exact cell_of_block (Below.heap_alloc w o b hb) off
  fresh b hb := hf b (by simp at hb; omega)
  blk b n := by
    rintro ⟨arr, ty, h1, h2⟩
    exact ⟨arr, ty, (Below.heap_alloc w o b (Array.getElem?_eq_some_iff.1 h1).1).trans h1, h2⟩

omit hT in
theorem Ch.drew (w : World) (E : Nat → Nat) (hf : ∀ b, w.heap.size ≤ b → E b = 0) (D : Nat → Prop) : Ch D w E w.drew E :=
  ⟨rfl, rfl, rfl, Nat.le_refl _, fun _ _ _ => ⟨rfl, rfl⟩, fun _ => Nat.le_refl _, fun _ _ _ => rfl, hf, fun _ _ q => q⟩

omit hT in
theorem get_app_some {l : List Nat} {o b x : Nat} (h : l[o]? = some b) : (l ++ [x])[o]? = some b := by
  have := (List.getElem?_eq_some_iff.1 h).1
  rw [List.getElem?_append_left this]; exact h
omit hT in
theorem get_app_inv {α : Type} {l : List α} {o : Nat} {b x : α} (h : (l ++ [x])[o]? = some b) : l[o]? = some b ∨ (o = l.length ∧ b = x) := by
  rcases Nat.lt_trichotomy o l.length with k | k | k
  · rw [List.getElem?_append_left k] at h; exact .inl h
  · subst k; rw [List.getElem?_append_right (Nat.le_refl _)] at h; simp at h; exact .inr ⟨rfl, h.symm⟩
  · rw [List.getElem?_append_right (by omega)] at h
    have : o - l.length ≠ 0 := by omega
    simp [List.getElem?_cons, this] at h

omit hT in
theorem rowAt_app {H : Hp I} {o : Nat} {r : Nat × Nat} {ob : O I} (h : rowAt H o = some r) : rowAt (H ++ [ob]) o = some r := by
  unfold rowAt at h ⊢
  cases hH : H[o]? with
  | none => simp [hH] at h
  | some x =>
    have := (List.getElem?_eq_some_iff.1 hH).1
    rw [List.getElem?_append_left this, hH]
    simpa [hH] using h

/-- A new variable. -/
theorem Sim.newObj (h : Sim T φ E w fr H tm) (arr : Array Value) (ty : TypeId) (ob : O I)
    (hob : RepO T (φ ++ [w.heap.size]) (w.alloc (.cells arr ty)) E w.heap.size ob)
    (ht : ∀ cs, ob = .var cs → ∀ (j : Nat) c u, cs[j]? = some c → arr[j]? = some u → ∀ b, tokC u c = some b → (∀ i, tokOf φ H w fr tm i ≠ some b) ∧ (∀ o : Nat, live H o → φ[o]? ≠ some b) ∧ b < w.heap.size ∧
      (∀ (j' : Nat) c' u', cs[j']? = some c' → arr[j']? = some u' → tokC u' c' = some b → j' = j)) :
    Sim T (φ ++ [w.heap.size]) E (w.alloc (.cells arr ty)) fr (H ++ [ob]) tm := by
  have hch := Ch.alloc w E h.fresh (.cells arr ty) (fun _ => False)
  have hw := h.world hT hch (fun _ _ _ q => q) (fun _ _ _ _ q => q)
  have hφ : ∀ (o b : Nat), φ[o]? = some b → (φ ++ [w.heap.size])[o]? = some b := fun o b q => get_app_some q
  have hlt : ∀ (o b : Nat), φ[o]? = some b → b < w.heap.size := fun o b q => (h.zero o b q).2
  have key : ∀ i b, tokOf (φ ++ [w.heap.size]) (H ++ [ob]) (w.alloc (.cells arr ty)) fr tm i = some b → tokOf φ H w fr tm i = some b ∨
      ∃ cs j c u, ob = .var cs ∧ i = .cell H.length j ∧ cs[j]? = some c ∧ arr[j]? = some u ∧ tokC u c = some b := by
    intro i b hb
    cases i with
    | slot t => exact .inl hb
    | cell o j =>
      simp only [tokOf] at hb
      cases h1 : (φ ++ [w.heap.size])[o]? with
      | none => simp [h1] at hb
      | some bb =>
        cases h2 : (H ++ [ob])[o]? with
        | none => simp [h1, h2] at hb
        | some ob' =>
          cases ob' with
          | var cs =>
            simp only [h1, h2] at hb
            cases h3 : cs[j]? with
            | none => simp [h3] at hb
            | some c =>
              cases h4 : (w.alloc (.cells arr ty)).cell? ⟨bb, j, none⟩ with
              | none => simp [h3, h4] at hb
              | some u =>
                simp only [h3, h4] at hb
                rcases get_app_inv h1 with k1 | ⟨k1, k1'⟩
                · have ho := (List.getElem?_eq_some_iff.1 k1).1
                  rw [h.len] at ho
                  rw [List.getElem?_append_left ho] at h2
                  refine .inl ?_
                  have hc := cell_of_block (Below.heap_alloc w (.cells arr ty) bb (hlt o bb k1)) j
                  simp only [tokOf, k1, h2, h3, ← hc, h4]; exact hb
                · rcases get_app_inv h2 with k2 | ⟨k2, k2'⟩
                  · have := (List.getElem?_eq_some_iff.1 k2).1
                    have := h.len; omega
                  · subst k1'
                    have h4' : arr[j]? = some u := by rw [← h4]; simp
                    exact .inr ⟨cs, j, c, u, k2'.symm, by rw [k2], h3, h4', hb⟩
          | row e l => simp [h1, h2] at hb
          | map a b c d => simp [h1, h2] at hb
          | gone => simp [h1, h2] at hb
  refine { len := by simp [h.len], objs := ?_, slots := ?_, flen := h.flen, inj := ?_, zero := ?_, fresh := hw.fresh, tinj := ?_, tobj := ?_, tlt := ?_, glob := hw.glob }
  · intro o b ob' h1 h2
    rcases get_app_inv h1 with k1 | ⟨k1, k1'⟩
    · have ho := (List.getElem?_eq_some_iff.1 k1).1
      rw [h.len] at ho
      rw [List.getElem?_append_left ho] at h2
      refine (h.objs o b ob' k1 h2).ch hT hch hφ (hlt o b k1) (fun q => q) ?_
      intro cs hob j c u hc hu k hk
      subst hob
      have e : tokOf φ H w fr tm (.cell o j) = some k := by simp only [tokOf, k1, h2, hc, hu]; exact hk
      exact ⟨fun q => q, h.tlt _ k e⟩
    · rcases get_app_inv h2 with k2 | ⟨k2, k2'⟩
      · have := (List.getElem?_eq_some_iff.1 k2).1
        have := h.len; omega
      · rw [k1', k2']; exact hob
  · intro t
    exact (h.slots t).ch hT hch hφ (fun _ _ q => rowAt_app q) (fun _ _ q => q) (fun b hb => h.tlt (.slot t) b hb)
  · intro o o' b h1 h2 hl1 hl2
    rcases get_app_inv h1 with k1 | ⟨k1, k1'⟩ <;> rcases get_app_inv h2 with k2 | ⟨k2, k2'⟩
    · exact h.inj o o' b k1 k2 (live_app (by rw [← h.len]; exact (List.getElem?_eq_some_iff.1 k1).1) hl1) (live_app (by rw [← h.len]; exact (List.getElem?_eq_some_iff.1 k2).1) hl2)
    · have := hlt o b k1; omega
    · have := hlt o' b k2; omega
    · omega
  · intro o b h1
    rcases get_app_inv h1 with k1 | ⟨k1, k1'⟩
    · exact ⟨fun q => (h.zero o b k1).1 (live_app (by rw [← h.len]; exact (List.getElem?_eq_some_iff.1 k1).1) q), by have := hlt o b k1; simp; omega⟩
    · subst k1'; exact ⟨fun _ => h.fresh _ (Nat.le_refl _), by simp⟩
  · intro i j b hi hj
    rcases key i b hi with k1 | ⟨cs, j1, c1, u1, e1, i1, a1, a2, a3⟩ <;> rcases key j b hj with k2 | ⟨cs', j2, c2, u2, e2, i2, b1, b2, b3⟩
    · exact h.tinj i j b k1 k2
    · exact absurd k1 ((ht cs' e2 j2 c2 u2 b1 b2 b b3).1 i)
    · exact absurd k2 ((ht cs e1 j1 c1 u1 a1 a2 b a3).1 j)
    · rw [e1] at e2; cases e2
      have := (ht cs e1 j1 c1 u1 a1 a2 b a3).2.2.2 j2 c2 u2 b1 b2 b3
      rw [i1, i2, this]
  · intro i b o hi hlv ho
    rcases get_app_inv ho with k1 | ⟨k1, k1'⟩
    · have hlv' := live_app (by rw [← h.len]; exact (List.getElem?_eq_some_iff.1 k1).1) hlv
      rcases key i b hi with k2 | ⟨cs, j1, c1, u1, e1, i1, a1, a2, a3⟩
      · exact h.tobj i b o k2 hlv' k1
      · exact (ht cs e1 j1 c1 u1 a1 a2 b a3).2.1 o hlv' k1
    · subst k1'
      rcases key i _ hi with k2 | ⟨cs, j1, c1, u1, e1, i1, a1, a2, a3⟩
      · have := h.tlt i _ k2; omega
      · have := (ht cs e1 j1 c1 u1 a1 a2 _ a3).2.2.1; omega
  · intro i b hi
    rcases key i b hi with k2 | ⟨cs, j1, c1, u1, e1, i1, a1, a2, a3⟩
    · have := h.tlt i b k2; simp; omega
    · have := (ht cs e1 j1 c1 u1 a1 a2 b a3).2.2.1; simp; omega

/-- One block turned, all else as it was. -/
structure SetB (w : World) (b : Nat) (arr : Array Value) (ty : TypeId) (w' : World) : Prop where
  os : w'.os = w.os
  tape : w'.tape = w.tape
  output : w'.output = w.output
  size : w'.heap.size = w.heap.size
  here : w'.heap[b]? = some (.cells arr ty (0, 0))
  other : ∀ k, k ≠ b → w'.heap[k]? = w.heap[k]?
  room : ∀ n, Room w b n → n ≤ arr.size

omit hT in
theorem SetB.ch {b : Nat} {arr : Array Value} {ty : TypeId} (h : SetB w b arr ty w') (hE : E b = 0) (hf : ∀ b, w.heap.size ≤ b → E b = 0) : Ch (fun k => k = b) w E w' E :=
  ⟨h.os, h.tape, h.output, by rw [h.size]; exact Nat.le_refl _, fun k _ hn => ⟨h.other k hn, rfl⟩, fun _ => Nat.le_refl _,
   fun k off ho => by
    have : k ≠ b := fun e => by subst e; omega
    exact cell_of_block (h.other k this) off,
   fun k hk => hf k (by rw [← h.size]; exact hk),
   fun k n q => by
    by_cases e : k = b
    · subst e; exact ⟨arr, ty, h.here, h.room n q⟩
    · obtain ⟨a, t, q1, q2⟩ := q
      exact ⟨a, t, (h.other k e).trans q1, q2⟩⟩

omit hT in
theorem rowAt_set {H : Hp I} {o o' : Nat} {ob : O I} {r : Nat × Nat} (hr : rowAt H o = some r → o = o' → rowAt [ob] 0 = some r) (h : rowAt H o = some r) : rowAt (H.set o' ob) o = some r := by
  by_cases e : o' = o
  · subst e
    have h0 := hr h rfl
    unfold rowAt at h h0 ⊢
    cases hH : H[o']? with
    | none => simp [hH] at h
    | some x =>
      have := (List.getElem?_eq_some_iff.1 hH).1
      rw [List.getElem?_set_self this]
      simpa using h0
  · unfold rowAt at h ⊢
    rw [List.getElem?_set_ne e]; exact h

/-- A variable turned. -/
theorem Sim.setObj (h : Sim T φ E w fr H tm) {o b : Nat} (hφ : φ[o]? = some b) (hng : live H o) (arr : Array Value) (ty : TypeId) (hs : SetB w b arr ty w') (ob : O I) (hob : RepO T φ w' E b ob)
    (hrow : ∀ r, rowAt H o = some r → rowAt [ob] 0 = some r)
    (ht : ∀ cs, ob = .var cs → ∀ (j : Nat) c u, cs[j]? = some c → arr[j]? = some u → ∀ k, tokC u c = some k →
      (∀ i, tokOf φ H w fr tm i = some k → ∃ j', i = .cell o j') ∧ (∀ o : Nat, live H o → φ[o]? ≠ some k) ∧ k < w.heap.size ∧ (∀ (j' : Nat) c' u', cs[j']? = some c' → arr[j']? = some u' → tokC u' c' = some k → j' = j)) :
    Sim T φ E w' fr (H.set o ob) tm := by
  have hz := h.zero o b hφ
  have hch : Ch (fun k => k = b) w E w' E := hs.ch (hz.1 hng) h.fresh
  have hol : o < H.length := by rw [← h.len]; exact (List.getElem?_eq_some_iff.1 hφ).1
  have key : ∀ i k, tokOf φ (H.set o ob) w' fr tm i = some k → (tokOf φ H w fr tm i = some k ∧ ∀ j, i ≠ .cell o j) ∨
      ∃ cs j c u, ob = .var cs ∧ i = .cell o j ∧ cs[j]? = some c ∧ arr[j]? = some u ∧ tokC u c = some k := by
    intro i k hk
    cases i with
    | slot t => exact .inl ⟨hk, fun j e => by cases e⟩
    | cell o' j =>
      by_cases e : o' = o
      · subst e
        simp only [tokOf, hφ, List.getElem?_set_self hol] at hk
        cases ob with
        | var cs =>
          simp only at hk
          cases h3 : cs[j]? with
          | none => simp [h3] at hk
          | some c =>
            cases h4 : w'.cell? ⟨b, j, none⟩ with
            | none => simp [h3, h4] at hk
            | some u =>
              simp only [h3, h4] at hk
              have h4' : arr[j]? = some u := by rw [← h4]; simp [World.cell?, hs.here]
              exact .inr ⟨cs, j, c, u, rfl, rfl, h3, h4', hk⟩
        | row e l => simp at hk
        | map a b c d => simp at hk
        | gone => simp at hk
      · refine .inl ⟨?_, fun j' e' => by cases e'; exact e rfl⟩
        simp only [tokOf] at hk ⊢
        rw [List.getElem?_set_ne (fun q => e q.symm)] at hk
        cases h1 : φ[o']? with
        | none => simp [h1] at hk
        | some b' =>
          simp only [h1] at hk
          cases hH : H[o']? with
          | none => simp [hH] at hk
          | some x =>
            cases x with
            | var cs =>
              have hbb : b' ≠ b := fun q => e (h.inj o' o b (q ▸ h1) hφ (live_var hH) hng)
              simp only [hH, cell_of_block (hs.other b' hbb)] at hk ⊢
              exact hk
            | row e l => simp [hH] at hk
            | map a b c d => simp [hH] at hk
            | gone => simp [hH] at hk
  have free : ∀ i k, (tokOf φ H w fr tm i = some k ∧ ∀ j, i ≠ .cell o j) → k ≠ b := fun i k q e => h.tobj i k o q.1 hng (e ▸ hφ)
  refine { len := by simp [h.len], objs := ?_, slots := ?_, flen := h.flen, inj := ?_, zero := ?_, fresh := hch.fresh, tinj := ?_, tobj := ?_, tlt := ?_, glob := ?_ }
  · intro o' b' ob' h1 h2
    by_cases e : o' = o
    · subst e
      rw [hφ] at h1; cases h1
      rw [List.getElem?_set_self hol] at h2; cases h2
      exact hob
    · rw [List.getElem?_set_ne (fun q => e q.symm)] at h2
      by_cases hlo : live H o'
      case neg => exact repO_dead hlo h2
      have hbb : b' ≠ b := fun q => e (h.inj o' o b (q ▸ h1) hφ hlo hng)
      refine (h.objs o' b' ob' h1 h2).ch hT hch (fun _ _ q => q) (h.zero o' b' h1).2 hbb ?_
      intro cs hob j c u hc hu k hk
      subst hob
      have e1 : tokOf φ H w fr tm (.cell o' j) = some k := by simp only [tokOf, h1, h2, hc, hu]; exact hk
      exact ⟨free _ k ⟨e1, fun j' q => by cases q; exact e rfl⟩, h.tlt _ k e1⟩
  · intro t
    exact (h.slots t).ch hT hch (fun _ _ q => q) (fun o' r q => rowAt_set (fun q' e => hrow r (e ▸ q')) q)
      (fun k hk => free (.slot t) k ⟨hk, fun j e => by cases e⟩) (fun k hk => h.tlt (.slot t) k hk)
  · intro o1 o2 b' h1 h2 hl1 hl2
    have hl : ∀ q, live (H.set o ob) q → live H q := fun q hq => by
      by_cases e : q = o
      · rw [e]; exact hng
      · exact live_ne e hq
    exact h.inj o1 o2 b' h1 h2 (hl _ hl1) (hl _ hl2)
  · intro o' b' h1
    refine ⟨fun q => ?_, by rw [hs.size]; exact (h.zero o' b' h1).2⟩
    by_cases e : o' = o
    · subst e; rw [hφ] at h1; cases h1; exact hz.1 hng
    · exact (h.zero o' b' h1).1 (live_ne e q)
  · intro i j k hi hj
    rcases key i k hi with ⟨k1, n1⟩ | ⟨cs, j1, c1, u1, e1, i1, a1, a2, a3⟩ <;> rcases key j k hj with ⟨k2, n2⟩ | ⟨cs', j2, c2, u2, e2, i2, b1, b2, b3⟩
    · exact h.tinj i j k k1 k2
    · obtain ⟨j', e'⟩ := (ht cs' e2 j2 c2 u2 b1 b2 k b3).1 i k1; exact absurd e' (n1 j')
    · obtain ⟨j', e'⟩ := (ht cs e1 j1 c1 u1 a1 a2 k a3).1 j k2; exact absurd e' (n2 j')
    · rw [e1] at e2; cases e2
      have := (ht cs e1 j1 c1 u1 a1 a2 k a3).2.2.2 j2 c2 u2 b1 b2 b3
      rw [i1, i2, this]
  · intro i k o' hi hlv ho
    have hlv' : live H o' := by
      by_cases e : o' = o
      · rw [e]; exact hng
      · exact live_ne e hlv
    rcases key i k hi with ⟨k1, n1⟩ | ⟨cs, j1, c1, u1, e1, i1, a1, a2, a3⟩
    · exact h.tobj i k o' k1 hlv' ho
    · exact (ht cs e1 j1 c1 u1 a1 a2 k a3).2.1 o' hlv' ho
  · intro i k hi
    rw [hs.size]
    rcases key i k hi with ⟨k1, n1⟩ | ⟨cs, j1, c1, u1, e1, i1, a1, a2, a3⟩
    · exact h.tlt i k k1
    · exact (ht cs e1 j1 c1 u1 a1 a2 k a3).2.2.1
  · intro g x hg
    obtain ⟨e, l, hx, hr⟩ := h.glob g x hg
    exact ⟨e, l, hx, hr.ch hT hch.ext hch.cells⟩
end
end Go.Proofs.YtgefikclhfjcgaaDoorEv

namespace Go.Proofs.YtgefikclhfjcgaaDoorEv
open Go Go.RowKit
set_option linter.unusedVariables false
set_option linter.unusedSectionVars false
set_option linter.unusedSimpArgs false

section
variable {I : Nat → Type}
def renC (m : Nat → Option Nat) : C I → C I
  | .ptr o off => (match m o with | some o => .ptr o off | none => .dead)
  | .map o => (match m o with | some o => .map o | none => .dead)
  | c => c
def renY (m : Nat → Option Nat) : Y I → Y I
  | .one c => .one (renC m c)
  | .agg cs => .agg (cs.map (renC m))
def renX (m : Nat → Option Nat) : X I → X I
  | .y y => .y (renY m y)
  | .tup ys => .tup (ys.map (renY m))
  | .fn f caps => .fn f (caps.map (renC m))
  | .rp o e i off => (match m o with | some o => .rp o e i off | none => .dead)
  | .rs o e => (match m o with | some o => .rs o e | none => .dead)
  | x => x
def renO (m : Nat → Option Nat) : O I → O I
  | .var cs => .var (cs.map (renC m))
  | .row e l => .row e l
  | .map kd k e l => .map kd k e l
  | _ => .gone
def posOf : List Nat → Nat → Nat → Option Nat
  | [], _, _ => none
  | i :: is, k, o => if i = o then some k else posOf is (k + 1) o
def setAll (H : Hp I) : List Nat → Hp I → Hp I
  | i :: is, o :: os => (setAll H is os).set i o
  | _, _ => H
def backId (ids : List Nat) (n k0 m k : Nat) : Option Nat := if k < k0 then ids[k]? else if k < m then some (n + (k - k0)) else none
def subH (ids : List Nat) (H : Hp I) : Hp I := ids.map fun i => renO (posOf ids 0) ((H[i]?).getD .gone)
def embH (ids : List Nat) (H Hs : Hp I) : Hp I :=
  setAll H ids (Hs.map (renO (backId ids H.length ids.length Hs.length))) ++ (Hs.map (renO (backId ids H.length ids.length Hs.length))).drop ids.length
end

section
variable {I : Nat → Type} {P : Program} {T : Ty I} {w w' : World} {E E' : Nat → Nat} {φ φ' : List Nat} {fr fr1 : Fr I} {H H' : Hp I} {tm : Array Value}

theorem renC_weak (m : Nat → Option Nat) (c : C I) : (renC m c).weak = renC m c.weak := by
  cases c with
  | ptr o off => simp only [renC, C.weak]; cases m o <;> rfl
  | map o => simp only [renC, C.weak]; cases m o <;> rfl
  | _ => rfl
theorem tokC_ren (m : Nat → Option Nat) (v : Value) (c : C I) {b : Nat} (h : tokC v (renC m c) = some b) : tokC v c = some b := by
  cases c <;> first | exact h | (simp only [renC] at h; split at h <;> cases h)
theorem RepT.ren {m : Nat → Option Nat} {v : Value} {c : C I} (h : RepT T φ w E v c) (hm : ∀ o o' b, m o = some o' → φ[o]? = some b → φ'[o']? = some b) : RepT T φ' w E v (renC m c) := by
  cases c <;> first | exact h | skip
  · rename_i o off
    obtain ⟨b, h1, h2⟩ := h
    simp only [renC]
    split
    · rename_i o' q; exact ⟨b, hm o o' b q h1, h2⟩
    · subst h2; exact RepC.dead _ rfl
  · rename_i o
    obtain ⟨b, h1, h2⟩ := h
    simp only [renC]
    split
    · rename_i o' q; exact ⟨b, hm o o' b q h1, h2⟩
    · subst h2; exact RepC.dead _ rfl
theorem agg_ren {m : Nat → Option Nat} {arr : Array Value} {cs : List (C I)} (hm : ∀ o o' b, m o = some o' → φ[o]? = some b → φ'[o']? = some b) (h : ∀ (j : Nat) c, cs[j]? = some c → ∃ u, arr[j]? = some u ∧ RepT T φ w E u c.weak) :
    ∀ (j : Nat) c, (cs.map (renC m))[j]? = some c → ∃ u, arr[j]? = some u ∧ RepT T φ' w E u c.weak := by
  intro j c hc
  simp only [List.getElem?_map, Option.map_eq_some_iff] at hc
  obtain ⟨c0, h0, rfl⟩ := hc
  obtain ⟨u, hu, hr⟩ := h j c0 h0
  exact ⟨u, hu, by rw [renC_weak]; exact hr.ren hm⟩
theorem renY_weak (m : Nat → Option Nat) (y : Y I) : (renY m y).weak = renY m y.weak := by
  cases y with
  | one c => simp only [renY, Y.weak, renC_weak]
  | agg cs => simp only [renY, Y.weak, List.map_map]; congr 2; funext c; exact renC_weak m c
theorem RepY.ren {m : Nat → Option Nat} {v : Value} {y : Y I} (h : RepY T φ w E v y) (hm : ∀ o o' b, m o = some o' → φ[o]? = some b → φ'[o']? = some b) : RepY T φ' w E v (renY m y) := by
  cases y with
  | one c => exact RepT.ren h hm
  | agg cs =>
    obtain ⟨arr, h1, h2, h3⟩ := h
    exact ⟨arr, h1, by simp [h2], agg_ren hm h3⟩
theorem RepX.ren {m : Nat → Option Nat} {v : Value} {x : X I} (h : RepX T φ H w E v x) (hm : ∀ o o' b, m o = some o' → φ[o]? = some b → φ'[o']? = some b) (hr : ∀ o o' r, m o = some o' → rowAt H o = some r → rowAt H' o' = some r) : RepX T φ' H' w E v (renX m x) := by
  cases x with
  | y y => exact RepY.ren h hm
  | tup ys =>
    obtain ⟨arr, h1, h2, h3⟩ := h
    refine ⟨arr, h1, by simp [h2], fun j y hy => ?_⟩
    simp only [List.getElem?_map, Option.map_eq_some_iff] at hy
    obtain ⟨y0, h0, rfl⟩ := hy
    obtain ⟨u, hu, hru⟩ := h3 j y0 h0
    exact ⟨u, hu, by rw [renY_weak]; exact hru.ren hm⟩
  | ep cs off => exact h
  | fn f caps =>
    obtain ⟨arr, h1, h2, h3⟩ := h
    exact ⟨arr, h1, by simp [h2], agg_ren hm h3⟩
  | rp o e i off =>
    obtain ⟨b, n, h1, h2, h3, h4⟩ := h
    simp only [renX]
    split
    · rename_i o' q; exact ⟨b, n, hm o o' b q h1, hr o o' _ q h2, h3, h4⟩
    · trivial
  | rs o e =>
    obtain ⟨n, h1, h2⟩ := h
    simp only [renX]
    split
    · rename_i o' q
      refine ⟨n, hr o o' _ q h1, h2.imp id ?_⟩
      rintro ⟨b, cap, q1, q2⟩
      exact ⟨b, cap, hm o o' b q q1, q2⟩
    · trivial
  | ip e l => exact h
  | dead => trivial
theorem tokX_ren (m : Nat → Option Nat) (v : Value) (x : X I) {b : Nat} (h : tokX v (renX m x) = some b) : tokX v x = some b := by
  cases x with
  | y y => cases y with
    | one c => exact tokC_ren m v c h
    | agg cs => cases h
  | rp o e i off => simp only [renX] at h; split at h <;> cases h
  | rs o e => simp only [renX] at h; split at h <;> cases h
  | _ => exact h
theorem RepO.ren {m : Nat → Option Nat} {b : Nat} {x : O I} (h : RepO T φ w E b x) (hm : ∀ o o' b, m o = some o' → φ[o]? = some b → φ'[o']? = some b) : RepO T φ' w E b (renO m x) := by
  cases x with
  | var cs =>
    obtain ⟨arr, ty, h1, h2, h3⟩ := h
    refine ⟨arr, ty, h1, by simp [h2], fun j c hc => ?_⟩
    simp only [List.getElem?_map, Option.map_eq_some_iff] at hc
    obtain ⟨c0, h0, rfl⟩ := hc
    obtain ⟨u, hu, hru⟩ := h3 j c0 h0
    exact ⟨u, hu, hru.ren hm⟩
  | row e l => exact h
  | map a b c d => exact h
  | gone => trivial
theorem rowAt_ren {m : Nat → Option Nat} {Hs : Hp I} {k i : Nat} {r : Nat × Nat} (h : H'[i]? = (Hs[k]?).map (renO m)) (hr : rowAt Hs k = some r) : rowAt H' i = some r := by
  unfold rowAt at hr ⊢
  cases hk : Hs[k]? with
  | none => rw [hk] at hr; cases hr
  | some x =>
    rw [hk] at hr h
    cases x <;> first | (cases hr; done) | skip
    simp only [Option.map_some, renO] at h
    rw [h]; exact hr

theorem posOf_some : ∀ (ids : List Nat) (k o j : Nat), posOf ids k o = some j → k ≤ j ∧ ids[j - k]? = some o
  | [], k, o, j, h => by cases h
  | i :: is, k, o, j, h => by
    simp only [posOf] at h
    split at h
    · rename_i e; cases h; subst e; simp
    · obtain ⟨h1, h2⟩ := posOf_some is (k + 1) o j h
      refine ⟨by omega, ?_⟩
      rw [show j - k = (j - (k + 1)) + 1 by omega]
      simpa using h2
theorem posOf_none : ∀ (ids : List Nat) (k o : Nat), posOf ids k o = none → o ∉ ids
  | [], k, o, h => by simp
  | i :: is, k, o, h => by
    simp only [posOf] at h
    split at h
    · cases h
    · rename_i e
      have := posOf_none is (k + 1) o h
      simp [this]; omega
theorem posOf_get {ids : List Nat} {o j : Nat} (h : posOf ids 0 o = some j) : ids[j]? = some o := by have := (posOf_some ids 0 o j h).2; simpa using this
theorem setAll_length (H : Hp I) : ∀ (is : List Nat) (os : Hp I), (setAll H is os).length = H.length
  | i :: is, o :: os => by simp [setAll, setAll_length H is os]
  | [], _ => rfl
  | _ :: _, [] => rfl
theorem setAll_get (H : Hp I) : ∀ (is : List Nat) (os : Hp I) (i : Nat), is.Nodup → is.length ≤ os.length → (∀ j ∈ is, j < H.length) →
    (i ∉ is → (setAll H is os)[i]? = H[i]?) ∧ ∀ k : Nat, is[k]? = some i → (setAll H is os)[i]? = os[k]?
  | [], os, i, _, _, _ => ⟨fun _ => rfl, fun k h => by simp at h⟩
  | a :: is, [], i, _, h, _ => by simp at h
  | a :: is, o :: os, i, hn, hl, hlt => by
    obtain ⟨h1, h2⟩ := setAll_get H is os i (List.nodup_cons.1 hn).2 (by simpa using hl) (fun j hj => hlt j (List.mem_cons_of_mem _ hj))
    simp only [setAll]
    refine ⟨fun hi => ?_, fun k hk => ?_⟩
    · simp only [List.mem_cons, not_or] at hi
      rw [List.getElem?_set_ne (fun e => hi.1 e.symm)]
      exact h1 hi.2
    · cases k with
      | zero =>
        simp only [List.getElem?_cons_zero, Option.some.injEq] at hk
        subst hk
        rw [List.getElem?_set_self (by rw [setAll_length]; exact hlt a (by simp))]
        rfl
      | succ k =>
        simp only [List.getElem?_cons_succ] at hk
        have hne : a ≠ i := fun e => (List.nodup_cons.1 hn).1 (e ▸ List.mem_of_getElem? hk)
        rw [List.getElem?_set_ne hne]
        simpa using h2 k hk

theorem tok_cell {x : O I} {o j b k : Nat} {cs : List (C I)} {c : C I} {u : Value} (h1 : φ[o]? = some b) (h2 : H[o]? = some (.var cs)) (h3 : cs[j]? = some c) (h4 : w.cell? ⟨b, j, none⟩ = some u) : tokOf φ H w fr tm (.cell o j) = tokC u c := by
  simp only [tokOf, h1, h2, h3, h4]
theorem tok_cell_inv {o j b : Nat} (h : tokOf φ H w fr tm (.cell o j) = some b) : ∃ bb cs c u, φ[o]? = some bb ∧ H[o]? = some (.var cs) ∧ cs[j]? = some c ∧ w.cell? ⟨bb, j, none⟩ = some u ∧ tokC u c = some b := by
  simp only [tokOf] at h
  cases h1 : φ[o]? with
  | none => simp [h1] at h
  | some bb =>
    cases h2 : H[o]? with
    | none => simp [h1, h2] at h
    | some y =>
      cases y <;> first | (simp [h1, h2] at h; done) | skip
      rename_i cs
      simp only [h1, h2] at h
      cases h3 : cs[j]? with
      | none => simp [h3] at h
      | some c =>
        cases h4 : w.cell? ⟨bb, j, none⟩ with
        | none => simp [h3, h4] at h
        | some u =>
          simp only [h3, h4] at h
          exact ⟨bb, cs, c, u, rfl, rfl, h3, h4, h⟩

/-- A token of renamed variables is one of the variables. -/
theorem tok_ren {m : Nat → Option Nat} {Hs : Hp I} {k i j b : Nat} (hφ : ∀ b, φ'[i]? = some b → φ[k]? = some b) (hH : H'[i]? = (Hs[k]?).map (renO m)) {fr' : Fr I} {tm' : Array Value} (h : tokOf φ' H' w fr' tm' (.cell i j) = some b) : tokOf φ Hs w fr tm (.cell k j) = some b := by
  obtain ⟨bb, cs, c, u, h1, h2, h3, h4, h5⟩ := tok_cell_inv h
  rw [hH] at h2
  cases hk : Hs[k]? with
  | none => rw [hk] at h2; cases h2
  | some x =>
    rw [hk] at h2
    cases x <;> simp only [Option.map_some, renO, Option.some.injEq, O.var.injEq, reduceCtorEq] at h2
    subst h2
    simp only [List.getElem?_map, Option.map_eq_some_iff] at h3
    obtain ⟨c0, h0, rfl⟩ := h3
    simp only [tokOf, hφ bb h1, hk, h0, h4]
    exact tokC_ren m u c0 h5
end
end Go.Proofs.YtgefikclhfjcgaaDoorEv

namespace Go.Proofs.YtgefikclhfjcgaaDoorEv
open Go Go.RowKit
set_option linter.unusedVariables false

/-- What stands to be done: its kind (0: code; 1: behind a block; 2: a loop's next round; 3: behind a scope), its way from the function's body (the last step first), its code. -/
structure It where
  tag : Nat
  path : List Nat
  c : Code

section
variable {I : Nat → Type} (P : Program) (T : Ty I) {R : Type}

/-- A function that is called: the arguments that come with their right, the variables that it may write. -/
structure Ent (I : Nat → Type) where
  own : List Nat
  ids : List (X I) → List Nat
  pure : Bool

/-- What a function's ways need: the functions that it calls, where its text is cut, what is taken with its right (region, operation), in what order a region that draws its order is carried out here, which variables none of its operations writes. -/
structure Env (I : Nat → Type) (R : Type) where
  fn : Nat → Option (Ent I)
  call : Nat → List (X I) → Hp I → (X I → Hp I → Option R) → Option R
  cut : Nat → Option (Fr I → Hp I → Option R)
  tk : List (Nat × Nat)
  plan : Nat → List Nat
  keep : Nat → List (Nat × Nat)
  fin : X I → Hp I → Option R
  /-- how many variables the call was given, at most; rows that become lists ahead of a region, and at the end -/
  nh : Nat
  frz : Nat → List (Nat × Nat)
  frzR : List (Nat × Nat)

def dropArgs (fr : Fr I) (own : List Nat) : Nat → List Operand → Fr I
  | _, [] => fr
  | j, x :: xs => dropArgs (if own.contains j then drop fr x else fr) own (j + 1) xs
def argsOf (fr : Fr I) (own : List Nat) : Nat → List Operand → List (X I)
  | _, [] => []
  | j, x :: xs => (if own.contains j then ev T fr x else (ev T fr x).weak) :: argsOf fr own (j + 1) xs
/-- No slot is handed over twice. -/
def ownTmps (own : List Nat) : Nat → List Operand → List Nat
  | _, [] => []
  | j, x :: xs => (match x with | .tmp t => if own.contains j then [t] else [] | _ => []) ++ ownTmps own (j + 1) xs
def twice : List Nat → Bool
  | [] => false
  | t :: ts => ts.contains t || twice ts

def putD (fr : Fr I) (d : Option Nat) (x : X I) : Fr I := match d with | some t => fr.put t x | none => fr

def evCall (env : Env I R) (fr : Fr I) (H : Hp I) (f : Operand) (args : List Operand) (K : Kont I R) : Option R :=
  match ev T fr f with
  | .fn g caps =>
    (match env.fn g with
     | some e =>
       if twice (ownTmps e.own 0 args) then none else
       env.call g (argsOf T fr e.own 0 args ++ caps.map fun c => X.c c.weak) H fun x H => K x (dropArgs fr e.own 0 args) H
     | none => none)
  | _ => none

/-- An operation, of whatever kind. -/
def evAny (env : Env I R) (tk : Bool) (fr : Fr I) (H : Hp I) (o : Op) (K : Kont I R) : Option R :=
  match o with
  | .call { callee := .value f, args, argTypes := _ } => evCall T env fr H f args.toList K
  | o => evOp P T tk fr H o K

def isUndef : X I → Bool
  | .tup [] => true
  | _ => false
/-- The slots whose bool is known on the way through a region. -/
abbrev Kn := List (Nat × Bool)
def Kn.get (kn : Kn) (t : Nat) : Option Bool := (kn.find? fun p => p.1 == t).map (·.2)
def Kn.drop (kn : Kn) : Option Nat → Kn
  | some d => kn.filter fun p => !(p.1 == d)
  | none => kn
/-- An operation that waits for a bool of its region: carried out, or passed over. -/
def evGuard (ops : Array Oper) (o : Oper) (kn : Kn) (fr : Fr I) (Kt Kf : Kn → Option R) : Option R :=
  match o.guard with
  | none => Kt kn
  | some (g, want) =>
    match (ops[g]?).bind (·.dst) with
    | none => none
    | some t =>
      match kn.get t with
      | some b => if b = want then Kt kn else Kf kn
      | none =>
        if isUndef (fr.get t) = true then Kf kn else
        match boolOf (fr.get t) with
        | none => none
        | some q =>
          q.ite
            (if true = want then Kt ((t, true) :: kn) else Kf ((t, true) :: kn))
            (if false = want then Kt ((t, false) :: kn) else Kf ((t, false) :: kn))
/-- An operation, where bools are known. -/
def evKn (env : Env I R) (kn : Kn) (tk : Bool) (fr : Fr I) (H : Hp I) (o : Op) (K : Kont I R) : Option R :=
  match o with
  | .pick (.tmp t) a b =>
    (match kn.get t with
     | some true => K (ev T fr a).weak fr H
     | some false => K (ev T fr b).weak fr H
     | none => evAny P T env tk fr H o K)
  | o => evAny P T env tk fr H o K

/-- One operation of a region. -/
def evStep (env : Env I R) (rid : Nat) (ops : Array Oper) (j : Nat) (o : Oper) (kn : Kn) (fr : Fr I) (H : Hp I) (K : Kn → Fr I → Hp I → Option R) : Option R :=
  evGuard ops o kn fr
    (fun kn => evKn P T env kn (env.tk.contains (rid, j)) fr H o.op fun x fr H => K (kn.drop o.dst) (putD fr o.dst x) H)
    (fun kn => K (kn.drop o.dst) (putD fr o.dst (.tup [])) H)
/-- The operations of a region, in an order. -/
def evOps (env : Env I R) (rid : Nat) (ops : Array Oper) : List Nat → Kn → Fr I → Hp I → (Fr I → Hp I → Option R) → Option R
  | [], kn, fr, H, K => K fr H
  | j :: js, kn, fr, H, K =>
    match ops[j]? with
    | none => none
    | some o => evStep P T env rid ops j o kn fr H fun kn fr H => evOps env rid ops js kn fr H K

/-- An operation whose value stays what it is, whatever other operations of the region come first: it takes no right, and reads no variables but those that none of them writes. -/
def pureX (env : Env I R) (L : List Nat) (tk : Bool) (fr : Fr I) : Op → Bool
  | .move _ => !tk
  | .assign _ => !tk
  | .pick _ _ _ => true
  | .nilCheck _ => true
  | .fieldAddr _ _ _ => true
  | .extract _ _ => true
  | .unOp _ _ _ => true
  | .binOp _ _ _ _ _ => true
  | .build _ _ => true
  | .buildSlice _ _ _ => true
  | .convert _ _ _ => true
  | .makeFunc _ _ _ => true
  | .field _ _ _ => true
  | .index _ _ _ => true
  | .slice _ _ _ _ _ => true
  | .indexAddr _ x _ => (match ev T fr x with | .rs _ _ => false | .y (.one (.ptr _ _)) => false | _ => true)
  | .load _ x => !tk && (match ev T fr x with | .y (.one (.ptr o _)) => L.contains o | .ep _ _ => true | _ => false)
  | .call { callee := .builtin .len, args, argTypes := _ } => (match args.toList with | [x] => (match ev T fr x with | .rs _ _ => false | .y (.one (.map _)) => false | _ => true) | _ => false)
  | .call { callee := .value f, args, argTypes := _ } => (match ev T fr f with | .fn g _ => (match env.fn g with | some e => e.pure && e.own.isEmpty | none => false) | _ => false)
  | _ => false

def mapKeeps (L : List Nat) : X I → Bool
  | .y (.one (.map o)) => !L.contains o
  | _ => true
/-- An operation that writes none of these variables. -/
def keepsX (env : Env I R) (L : List Nat) (tk : Bool) (fr : Fr I) : Op → Bool
  | .load _ p => (match ev T fr p with | .y (.one (.ptr o _)) => !tk || !L.contains o | _ => true)
  | .store _ p _ => (match ev T fr p with | .y (.one (.ptr o _)) => !L.contains o | .rp o _ _ _ => !L.contains o | _ => true)
  | .mapUpdate _ m _ _ => mapKeeps L (ev T fr m)
  | .call { callee := .builtin .delete, args, argTypes := _ } => (match args.toList with | m :: _ => mapKeeps L (ev T fr m) | [] => true)
  | .call { callee := .builtin .clear, args, argTypes := _ } => (match args.toList with | m :: _ => mapKeeps L (ev T fr m) | [] => true)
  | .call { callee := .value f, args, argTypes := _ } => (match ev T fr f with | .fn g caps => (match env.fn g with | some e => (e.ids (argsOf T fr e.own 0 args.toList ++ caps.map fun c => X.c c.weak)).all fun o => !L.contains o | none => true) | _ => true)
  | _ => true

def tmpsOf (xs : List Operand) : List Nat := xs.filterMap fun | .tmp t => some t | _ => none
/-- The slots whose right an operation may take. -/
def takesOf (tk : Bool) : Op → List Nat
  | .move x => if tk then tmpsOf [x] else []
  | .assign x => if tk then tmpsOf [x] else []
  | .box _ x => tmpsOf [x]
  | .store _ _ v => tmpsOf [v]
  | .mapUpdate _ _ _ v => tmpsOf [v]
  | .call c => tmpsOf c.args.toList
  | _ => []
/-- No operation that may come ahead of this one has to do with its slots. -/
def freeX (env : Env I R) (rid : Nat) (ops : Array Oper) (listed : Array Bool) (i : Nat) : Bool :=
  match ops[i]? with
  | none => false
  | some oi => (List.range ops.size).all fun j => j == i || listed.getD j true || match ops[j]? with
      | some oj => oj.after.any (fun e => Region.binds .any e && e.on == i) || (oi.apart ops oj && (takesOf (env.tk.contains (rid, j)) oj.op).all fun t => !(oi.looksAt ops).contains t)
      | none => true

/-- Whether an operation waits for another one, through ones that have not come up yet. -/
def behindL (ops : Array Oper) (listed : Array Bool) (i : Nat) : Nat → Nat → Bool
  | 0, _ => false
  | f + 1, j => match ops[j]? with
    | some oj => oj.after.any fun e => Region.binds .any e && (!listed.getD e.on false && (e.on == i || behindL ops listed i f e.on))
    | none => false
/-- The variables that are kept as they are: each until an operation has come up. -/
def keptL (Kp : List (Nat × Nat)) (listed : Array Bool) : List Nat := (Kp.filter fun p => !listed.getD p.2 false).map (·.1)
/-- The variables that an operation may read ahead of all others: what lets them go waits for it. -/
def pureL (Kp : List (Nat × Nat)) (ops : Array Oper) (listed : Array Bool) (i : Nat) : List Nat :=
  (Kp.filter fun p => !listed.getD p.2 false && (decide (ops.size ≤ p.2) || behindL ops listed i ops.size p.2)).map (·.1)
/-- A load that a call has nothing to do with. -/
def loadFree (fr : Fr I) (ops : Array Oper) (oi : Oper) (tks ids : List Nat) (n j : Nat) : Bool :=
  match ops[j]? with
  | some oj => oj.guard.isNone && (oi.apart ops oj && ((tks.all fun t => !(oj.looksAt ops).contains t) &&
      match oj.op with
      | .load _ p => (match ev T fr p with | .y (.one (.ptr o _)) => !ids.contains o && decide (o < n) | _ => false)
      | _ => false))
  | none => false
/-- A call that may come first: beside it there is one load that has nothing to do with it. -/
def callX (env : Env I R) (ops : Array Oper) (listed : Array Bool) (fr : Fr I) (n i : Nat) : Bool :=
  match ops[i]? with
  | some oi => oi.guard.isNone && ((Region.ready .any ops listed).contains i &&
      match oi.op with
      | .call { callee := .value f, args, argTypes := _ } =>
        (match ev T fr f with
         | .fn g caps =>
           (match env.fn g with
            | some e => (List.range ops.size).any fun j => !(j == i) && (loadFree T fr ops oi (tmpsOf args.toList) (e.ids (argsOf T fr e.own 0 args.toList ++ caps.map fun c => X.c c.weak)) n j &&
                (List.range ops.size).all fun k => k == i || (k == j || (listed.getD k true || behindL ops listed i ops.size k)))
            | none => false)
         | _ => false)
      | _ => false)
  | none => false

/-- The operations of a region that draws its order, in one order that stands for all. -/
def evPlan (env : Env I R) (rid : Nat) (ops : Array Oper) (Kp : List (Nat × Nat)) : List Nat → Array Bool → Kn → Fr I → Hp I → (Fr I → Hp I → Option R) → Option R
  | [], listed, kn, fr, H, K => if (Region.ready .any ops listed).isEmpty then K fr H else none
  | i :: is, listed, kn, fr, H, K =>
    match ops[i]? with
    | none => none
    | some o =>
      if (decide (Region.ready .any ops listed = [i]) || ((freeX env rid ops listed i && (Region.ready .any ops listed).contains i) || callX T env ops listed fr H.length i)) = true then
        evGuard ops o kn fr
          (fun kn =>
            if ((decide (Region.ready .any ops listed = [i]) || (!(Kp.any fun p => p.2 == i) && (callX T env ops listed fr H.length i || (freeX env rid ops listed i && pureX T env (pureL Kp ops listed i) (env.tk.contains (rid, i)) fr o.op))))
                && keepsX T env (keptL Kp listed) (env.tk.contains (rid, i)) fr o.op) = true then
              evKn P T env kn (env.tk.contains (rid, i)) fr H o.op fun x fr H => evPlan env rid ops Kp is (listed.setIfInBounds i true) (kn.drop o.dst) (putD fr o.dst x) H K
            else none)
          (fun kn =>
            if (decide (Region.ready .any ops listed = [i]) || (!(Kp.any fun p => p.2 == i) && (freeX env rid ops listed i && (Region.ready .any ops listed).contains i))) = true then
              evPlan env rid ops Kp is (listed.setIfInBounds i true) (kn.drop o.dst) (putD fr o.dst (.tup [])) H K
            else none)
      else none

/-- A region's operations, whether it draws or not. -/
def evRegion (env : Env I R) (draw : Bool) (rid : Nat) (ops : Array Oper) (fr : Fr I) (H : Hp I) (K : Fr I → Hp I → Option R) : Option R :=
  if draw then
    if ((env.keep rid).all fun o => decide (o.1 < H.length)) = true then evPlan P T env rid ops (env.keep rid) (env.plan rid) (Array.replicate ops.size false) [] fr H K else none
  else evOps P T env rid ops (List.range ops.size) [] fr H K

def exitTo (id : Nat) : List It → Option (List It)
  | ⟨1, _, .block id' _⟩ :: k => if id' = id then some k else exitTo id k
  | _ :: k => exitTo id k
  | [] => none

/-- What the result variables hold. -/
def retY (fr : Fr I) (H : Hp I) : ResultVar → Option (X I)
  | .tmp t => some (fr.get t)
  | .cell a t => match P.underlying t with | some _ => loadAt P T false fr H t (fr.get a) fun x _ _ => some x | none => none
def yOfX (H : Hp I) : X I → Option (Y I)
  | .y y => some y.weak
  | _ => none
def rets (fn : Func) (fr : Fr I) (H : Hp I) : Option (X I) :=
  match fn.results.toList with
  | [r] => retY P T fr H r
  | rs => (rs.mapM fun r => (retY P T fr H r).bind (yOfX H)).map .tup

/-- What stands to be done at a region of a body. -/
def todoAt (id : Nat) : Code → List Nat → List It → Option (List It)
  | .seq x y, p, k => (todoAt id x (0 :: p) (⟨0, 1 :: p, y⟩ :: k)).or (todoAt id y (1 :: p) k)
  | .cond _ x y, p, k => (todoAt id x (0 :: p) k).or (todoAt id y (1 :: p) k)
  | .block j x, p, k => todoAt id x (0 :: p) (⟨1, p, .block j x⟩ :: k)
  | .loop x, p, k => todoAt id x (0 :: p) (⟨2, p, .loop x⟩ :: k)
  | .scope x, p, k => todoAt id x (0 :: p) (⟨3, p, .scope x⟩ :: k)
  | .region j ops d, p, k => if j = id then some (⟨0, p, .region j ops d⟩ :: k) else none
  | _, _, _ => none

def sameWays : List Nat → List Nat → Bool
  | [], [] => true
  | a :: as, b :: bs => a == b && sameWays as bs
  | _, _ => false
def sameTodo : List It → List It → Bool
  | [], [] => true
  | a :: as, b :: bs => a.tag == b.tag && sameWays a.path b.path && sameTodo as bs
  | _, _ => false
def bodyOf (fn : Func) : Code := match fn.body with | some c => c | none => .skip
def atCut (fn : Func) (id : Nat) (k : List It) : Bool := match todoAt id (bodyOf fn) [] [] with | some k' => sameTodo k k' | none => false

/-- All variables but one. -/
def but (o : Nat) : Nat → Option Nat := fun o' => if o' = o then none else some o'
/-- What looks at a variable holds nothing any more. -/
def resetF (o : Nat) (fr : Fr I) : Fr I := fr.map (renX (but o))
def resetH (o : Nat) (ob : O I) (H : Hp I) : Hp I := (H.map (renO (but o))).set o ob
/-- The row that a slot holds becomes a value of the slot's own, where it is the call's own. -/
def cls1 (nh : Nat) (fr : Fr I) (H : Hp I) (t : Nat) : Fr I × Hp I :=
  match fr.get t with
  | .rs o e => (match H[o]? with
    | some (.row e' l) => if e' = e ∧ nh ≤ o then ((resetF o fr).put t (.c (.own e' l)), resetH o .gone H) else (fr, H)
    | _ => (fr, H))
  | _ => (fr, H)
/-- A slot's own value becomes a list, which may be appended to. -/
def ofr1 (fr : Fr I) (t : Nat) : Fr I :=
  match fr.get t with
  | .y (.one (.own e l)) => fr.put t (.c (.acc e l))
  | _ => fr
/-- A slot's own value becomes a row. -/
def opn1 (nh : Nat) (fr : Fr I) (H : Hp I) (t o : Nat) : Fr I × Hp I :=
  match fr.get t with
  | .y (.one (.own e l)) => (match H[o]? with
    | some .gone => if nh ≤ o then ((resetF o fr).put t (.rs o e), resetH o (.row e l) H) else (fr, H)
    | _ => (fr, H))
  | _ => (fr, H)
/-- 0: a list; 1: a value of the slot's own; o + 2: row o. -/
def gh1 (nh : Nat) (fr : Fr I) (H : Hp I) (t : Nat) : Nat → Fr I × Hp I
  | 0 => (ofr1 (cls1 nh fr H t).1 t, (cls1 nh fr H t).2)
  | 1 => cls1 nh fr H t
  | o + 2 => opn1 nh fr H t o
def frzs (nh : Nat) : Fr I → Hp I → List (Nat × Nat) → Fr I × Hp I
  | fr, H, [] => (fr, H)
  | fr, H, p :: ts => let q := gh1 nh fr H p.1 p.2; frzs nh q.1 q.2 ts
/-- The ways of a function. 'b': the region ahead is one that is cut, and its ways begin here. -/
def exec (fn : Func) (env : Env I R) : Nat → Bool → List It → Fr I → Hp I → Option R
  | 0, _, _, _, _ => none
  | m + 1, b, [], fr, H => match rets P T fn (frzs env.nh fr H env.frzR).1 (frzs env.nh fr H env.frzR).2 with | some x => env.fin x (frzs env.nh fr H env.frzR).2 | none => none
  | m + 1, b, ⟨tag, p, c⟩ :: k, fr, H =>
    match tag, c with
    | 0, .skip => exec fn env m b k fr H
    | 0, .seq x y => exec fn env m b (⟨0, 0 :: p, x⟩ :: ⟨0, 1 :: p, y⟩ :: k) fr H
    | 0, .cond c x y => match boolOf (ev T fr c) with | some q => q.ite (exec fn env m b (⟨0, 0 :: p, x⟩ :: k) fr H) (exec fn env m b (⟨0, 1 :: p, y⟩ :: k) fr H) | none => none
    | 0, .block id x => exec fn env m b (⟨0, 0 :: p, x⟩ :: ⟨1, p, .block id x⟩ :: k) fr H
    | 0, .loop x => exec fn env m b (⟨0, 0 :: p, x⟩ :: ⟨2, p, .loop x⟩ :: k) fr H
    | 0, .scope x => exec fn env m b (⟨0, 0 :: p, x⟩ :: ⟨3, p, .scope x⟩ :: k) fr H
    | 0, .exit id => match exitTo id k with | some k => exec fn env m b k fr H | none => none
    | 0, .ret => match rets P T fn (frzs env.nh fr H env.frzR).1 (frzs env.nh fr H env.frzR).2 with | some x => env.fin x (frzs env.nh fr H env.frzR).2 | none => none
    | 0, .region id ops draw =>
      match (if b then none else env.cut id) with
      | some g => if atCut fn id (⟨0, p, .region id ops draw⟩ :: k) = true then g (frzs env.nh fr H (env.frz id)).1 (frzs env.nh fr H (env.frz id)).2 else none
      | none =>
        evRegion P T env draw id ops (frzs env.nh fr H (env.frz id)).1 (frzs env.nh fr H (env.frz id)).2 fun fr H => exec fn env m false k fr H
    | 2, .loop x => exec fn env m b (⟨0, 0 :: p, x⟩ :: ⟨2, p, .loop x⟩ :: k) fr H
    | 1, .block _ _ => exec fn env m b k fr H
    | 3, .scope _ => exec fn env m b k fr H
    | _, _ => none
end
end Go.Proofs.YtgefikclhfjcgaaDoorEv

namespace Go.Proofs.YtgefikclhfjcgaaDoorEv
open Go Go.RowKit
set_option linter.unusedVariables false
set_option linter.unusedSectionVars false
set_option linter.unusedSimpArgs false

/-- The words of the elements' types fit the program. -/
structure TyOK {I : Nat → Type} (P : Program) (T : Ty I) : Prop where
  sz : ∀ e, T.sz e = ((P.info? e).map (·.size)).getD 0
  len : ∀ e (x : I e), (T.cells e x).length = T.sz e
  of : ∀ (e : Nat) (cs : List (C I)) x, T.of e cs = some x → cs.length = T.sz e ∧ ∀ (j : Nat) c, cs[j]? = some c → c.data = true ∧ ∃ d, (T.cells e x)[j]? = some d ∧ ∀ w E v, RepC T w E v c → RepC T w E v d
  key : ∀ (e : Nat) (kd : Kd) (c : C I) x, T.of e [c] = some x → isKd kd c = true → T.cells e x = [c]
  u8 : ∀ e q, T.u8 e = some q → (∀ l, (q.1 l).length = l.length ∧ ∀ (i : Nat) n, l[i]? = some n → ∃ x, (q.1 l)[i]? = some x ∧ T.cells e x = [.int .u8 n]) ∧
    (∀ l, (q.2 l).length = l.length ∧ ∀ (i : Nat) x, l[i]? = some x → ∃ n, (q.2 l)[i]? = some n ∧ T.cells e x = [.int .u8 n])

section
variable {I : Nat → Type} (P : Program) (T : Ty I)

structure Res (S : Nat → Prop) (φ : List Nat) (E : Nat → Nat) (w : World) (fr : Fr I) (H : Hp I) (tm : Array Value) (v : Value) (x : X I)
    (φ' : List Nat) (E' : Nat → Nat) (w' : World) (fr' : Fr I) (H' : Hp I) : Prop where
  sim : Sim T φ' E' w' fr' H' tm
  rep : RepX T φ' H' w' E' v x
  free : ∀ b, tokX v x = some b → (∀ i, tokOf φ' H' w' fr' tm i ≠ some b) ∧ (∀ o : Nat, live H' o → φ'[o]? ≠ some b) ∧ b < w'.heap.size
  ch : Ch (OwnS S φ H w fr tm) w E w' E'
  own : ∀ b, (Own φ' H' w' fr' tm b ∨ tokX v x = some b) → Own φ H w fr tm b ∨ w.heap.size ≤ b
  pre : ∀ (o b : Nat), φ[o]? = some b → φ'[o]? = some b
  rows : ∀ o r, rowAt H o = some r → rowAt H' o = some r

/-- The machine's operation comes to a value and a world. -/
def Runs (o : Oper) (a : Act) (w : World) (v : Value) (w' : World) : Prop :=
  (execOp a.eval o).run P w = .ok (.value v) w' ∨ ((execOp a.eval o).run P w = .ok .skip w' ∧ v = undef)

/-- The variables that an operation writes. -/
def mapArg : Op → Option Operand
  | .mapUpdate _ m _ _ => some m
  | .call { callee := .builtin .delete, args, argTypes := _ } => args.toList.head?
  | .call { callee := .builtin .clear, args, argTypes := _ } => args.toList.head?
  | _ => none
def wrOf (fr : Fr I) (o : Oper) (i : Nat) : Prop :=
  (∃ t p v, o.op = .store t p v ∧ ((∃ off, ev T fr p = .c (.ptr i off)) ∨ ∃ e k off, ev T fr p = .rp i e k off)) ∨ ∃ m, mapArg o.op = some m ∧ ev T fr m = .c (.map i)

/-- What an operation's soundness says. -/
def Sound {R : Type} (K : Kont I R) (out : R) (φ : List Nat) (E : Nat → Nat) (w : World) (fr : Fr I) (H : Hp I) (a : Act) (o : Oper) : Prop :=
  ∃ v x φ' E' w' fr' H', K x fr' H' = some out ∧ Runs P o a w v w' ∧ Res T (wrOf T fr o) φ E w fr H a.tmps v x φ' E' w' fr' H'
/-- What a load reads is the same in both worlds. -/
def Reads (o : Oper) (a : Act) (w w' : World) : Prop :=
  ∀ t x b off n, o.op = .load t x → a.eval x = .pointer (some ⟨b, off, none⟩) → cellsOf P t = some n → ∀ j, j < n → w'.cell? ⟨b, off + j, none⟩ = w.cell? ⟨b, off + j, none⟩

/-- An operation that leaves memory alone, and comes to the same in every world in which what it reads is the same. -/
def Sound1 {R : Type} (K : Kont I R) (out : R) (φ : List Nat) (E : Nat → Nat) (w : World) (fr : Fr I) (H : Hp I) (a : Act) (o : Oper) : Prop :=
  ∃ v x fr', K x fr' H = some out ∧ (∀ w', Reads P o a w w' → (execOp a.eval o).run P w' = .ok (.value v) w') ∧ Res T (wrOf T fr o) φ E w fr H a.tmps v x φ E w fr' H

theorem Sound1.sound {R : Type} {K : Kont I R} {out : R} {φ : List Nat} {E : Nat → Nat} {w : World} {fr : Fr I} {H : Hp I} {a : Act} {o : Oper} (h : Sound1 P T K out φ E w fr H a o) : Sound P T K out φ E w fr H a o := by
  obtain ⟨v, x, fr', h1, h2, h3⟩ := h
  exact ⟨v, x, φ, E, w, fr', H, h1, .inl (h2 w (fun _ _ _ _ _ _ _ _ _ _ => rfl)), h3⟩

end

section
variable {I : Nat → Type} {P : Program} {T : Ty I} {D S : Nat → Prop} {w w' : World} {E E' : Nat → Nat} {φ φ' : List Nat} {fr fr' : Fr I} {H H' : Hp I} {tm : Array Value} {R : Type} {out : R} {K : Kont I R} {o : Oper}

theorem Res.same (h : Sim T φ E w fr H tm) {v : Value} {x : X I} (hr : RepX T φ H w E v x) (ht : tokX v x = none) : Res T S φ E w fr H tm v x φ E w fr H where
  sim := h
  rep := hr
  free b hb := by rw [ht] at hb; cases hb
  ch := Ch.refl w E h.fresh _
  own b hb := by
    rcases hb with hb | hb
    · exact .inl hb
    · rw [ht] at hb; cases hb
  pre _ _ q := q
  rows _ _ q := q

theorem RepC.tok {v : Value} {c : C I} (h : RepC T w E v c) : tokC v c = none := by cases h <;> rfl
theorem RepC.toT {v : Value} {c : C I} (h : RepC T w E v c) : RepT T φ w E v c := by cases h <;> first | exact RepC.int .. | exact RepC.bool .. | exact RepC.str .. | exact RepC.nils | exact RepC.nilsl .. | exact RepC.nilp | exact RepC.dead _ (by assumption) | exact RepC.sl _ _ _ _ _ _ (by assumption) (by assumption) (by assumption) (by assumption)
theorem RepT.toC {v : Value} {c : C I} (h : RepT T φ w E v c) (hd : c.data = true) : RepC T w E v c := by
  cases c <;> first | exact h | cases hd
theorem RepT.weak {v : Value} {c : C I} (h : RepT T φ w E v c) : RepT T φ w E v c.weak := by
  cases c <;> first | exact h | exact h.1 | (rcases h with ⟨_, a, rfl⟩ | ⟨b, cap, arr, ty, rfl, _⟩ <;> exact RepC.dead _ rfl)
theorem RepY.weak {v : Value} {y : Y I} (h : RepY T φ w E v y) : RepY T φ w E v y.weak := by
  cases y with
  | one c => exact RepT.weak h
  | agg cs =>
    obtain ⟨arr, hv, hs, hj⟩ := h
    refine ⟨arr, hv, by simp [hs], fun j c hc => ?_⟩
    simp only [List.getElem?_map, Option.map_eq_some_iff] at hc
    obtain ⟨c0, h0, rfl⟩ := hc
    obtain ⟨u, hu, hr⟩ := hj j c0 h0
    exact ⟨u, hu, hr.weak⟩
theorem RepX.weak {v : Value} {x : X I} (h : RepX T φ H w E v x) : RepX T φ H w E v x.weak := by
  cases x <;> first | exact RepY.weak h | exact h
theorem tokX_weakX (v : Value) (x : X I) : tokX v x.weak = none := by
  cases x with
  | y y => exact tokX_weak v y
  | _ => rfl

theorem cOf_rep {v : Value} {c : C I} (h : cOf v = some c) : RepC T w E v c := by
  unfold cOf at h
  split at h <;> first | (cases h; first | exact .int .. | exact .bool (.b _) | exact .str .. | exact .nils | exact .nilp) | cases h

theorem mapM_get {α β : Type} (f : α → Option β) : ∀ (l : List α) (l' : List β), l.mapM f = some l' → l'.length = l.length ∧ ∀ (j : Nat) y, l'[j]? = some y → ∃ x, l[j]? = some x ∧ f x = some y
  | [], l', h => by simp at h; subst h; exact ⟨rfl, fun j y hy => by simp at hy⟩
  | a :: l, l', h => by
    rw [List.mapM_cons] at h
    cases hf : f a with
    | none => simp [hf] at h
    | some b =>
      cases hl : l.mapM f with
      | none => simp [hf, hl] at h
      | some l2 =>
        simp [hf, hl] at h
        subst h
        obtain ⟨h1, h2⟩ := mapM_get f l l2 hl
        refine ⟨by simp [h1], fun j y hy => ?_⟩
        cases j with
        | zero => simp at hy; subst hy; exact ⟨a, by simp, hf⟩
        | succ j => simp at hy; obtain ⟨x, hx, hx2⟩ := h2 j y hy; exact ⟨x, by simpa using hx, hx2⟩

theorem yOf_rep {v : Value} {y : Y I} (h : yOf v = some y) : RepY T φ w E v y ∧ tokX v (.y y) = none := by
  cases v <;> simp only [yOf, Option.map_eq_some_iff] at h
  case agg arr =>
    obtain ⟨cs, h1, rfl⟩ := h
    obtain ⟨hl, hj⟩ := mapM_get cOf _ _ h1
    refine ⟨⟨arr, rfl, by simp [hl], fun j c hc => ?_⟩, rfl⟩
    obtain ⟨u, hu, hc2⟩ := hj j c hc
    exact ⟨u, by simpa using hu, (cOf_rep hc2).toT.weak⟩
  all_goals
    obtain ⟨c, h1, rfl⟩ := h
    exact ⟨(cOf_rep h1).toT, (cOf_rep (T := T) (w := w) (E := E) h1).tok⟩

theorem ev_rep (h : Sim T φ E w fr H tm) (ds : List Deferred) (x : Operand) : RepX T φ H w E (Act.eval ⟨tm, ds⟩ x) (ev T fr x) := by
  cases x with
  | tmp t => exact h.slots t
  | const v =>
    simp only [ev, Act.eval]
    cases hy : (yOf v : Option (Y I)) with
    | none => trivial
    | some y => exact (yOf_rep hy).1
  | global g =>
    simp only [ev, Act.eval]
    cases hg : T.glob g with
    | none => trivial
    | some x =>
      obtain ⟨e, l, hx, hr⟩ := h.glob g x hg
      subst hx
      exact ⟨g, rfl, hr⟩
  | func f => exact ⟨#[], rfl, rfl, fun j c hc => by simp at hc⟩

theorem drop_sim (h : Sim T φ E w fr H tm) (x : Operand) : Sim T φ E w (drop fr x) H tm := by
  cases x <;> try exact h
  rename_i t
  refine h.slots' (by simp [drop, Fr.put]; exact h.flen) (fun s => ?_) (fun s b hb => ?_)
  · simp only [drop, get_put]
    split
    · rename_i e; rw [e.1]; exact (h.slots t).weak
    · exact h.slots s
  · simp only [drop, get_put] at hb
    split at hb
    · rw [tokX_weakX] at hb; cases hb
    · exact hb

theorem drop_tok (x : Operand) {i : Ow} {b : Nat} (hb : tokOf φ H w (drop fr x) tm i = some b) : tokOf φ H w fr tm i = some b ∧ ∀ t, x = .tmp t → t < fr.length → i ≠ .slot t := by
  cases x with
  | tmp t =>
    cases i with
    | slot s =>
      simp only [tokOf, drop, get_put] at hb
      split at hb
      · rw [tokX_weakX] at hb; cases hb
      · rename_i hn
        refine ⟨hb, fun t' e ht q => ?_⟩
        cases e; cases q
        exact hn ⟨rfl, ht⟩
    | cell o' j => exact ⟨hb, fun t' _ _ q => by cases q⟩
  | _ => exact ⟨hb, fun t' e => by cases e⟩

/-- What is taken out of a slot is free then. -/
theorem drop_free (h : Sim T φ E w fr H tm) (ds : List Deferred) (x : Operand) {b : Nat} (hb : tokX (Act.eval ⟨tm, ds⟩ x) (ev T fr x) = some b) :
    (∀ i, tokOf φ H w (drop fr x) tm i ≠ some b) ∧ (∀ o : Nat, live H o → φ[o]? ≠ some b) ∧ b < w.heap.size ∧ ∃ i, tokOf φ H w fr tm i = some b := by
  cases x with
  | tmp t =>
    have e : tokOf φ H w fr tm (.slot t) = some b := hb
    refine ⟨fun i hi => ?_, fun o => h.tobj _ b o e, h.tlt _ b e, ⟨_, e⟩⟩
    obtain ⟨k1, k2⟩ := drop_tok (.tmp t) hi
    have := h.tinj i (.slot t) b k1 e
    refine k2 t rfl ?_ this
    rcases Nat.lt_or_ge t fr.length with q | q
    · exact q
    · simp only [ev] at hb; rw [get_ge fr t q] at hb; cases hb
  | const v =>
    simp only [ev, Act.eval] at hb
    cases hy : (yOf v : Option (Y I)) with
    | none => rw [hy] at hb; cases hb
    | some y =>
      rw [hy] at hb
      have := (yOf_rep (T := T) (φ := φ) (w := w) (E := E) hy).2
      simp only [Option.map_some, Option.getD_some] at hb
      rw [this] at hb; cases hb
  | global g =>
    simp only [ev, Act.eval] at hb
    cases hg : T.glob g with
    | none => rw [hg] at hb; cases hb
    | some x => obtain ⟨e, l, hx, hr⟩ := h.glob g x hg; rw [hg, hx] at hb; cases hb
  | func f => cases hb

theorem drop_own (x : Operand) {b : Nat} (hb : Own φ H w (drop fr x) tm b) : Own φ H w fr tm b := by
  rcases hb with hb | ⟨i, hi⟩
  · exact .inl hb
  · exact .inr ⟨i, (drop_tok x hi).1⟩

theorem Res.taken (h : Sim T φ E w fr H tm) (ds : List Deferred) (x : Operand) : Res T S φ E w fr H tm (Act.eval ⟨tm, ds⟩ x) (ev T fr x) φ E w (drop fr x) H where
  sim := drop_sim h x
  rep := ev_rep h ds x
  free b hb := by obtain ⟨h1, h2, h3, _⟩ := drop_free h ds x hb; exact ⟨h1, h2, h3⟩
  ch := Ch.refl w E h.fresh _
  own b hb := by
    rcases hb with hb | hb
    · exact .inl (drop_own x hb)
    · exact .inl (.inr (drop_free h ds x hb).2.2.2)
  pre _ _ q := q
  rows _ _ q := q

variable {a : Act} (hs : Sim T φ E w fr H a.tmps)
include hs

theorem ok_move1 {x : Operand} {tk : Bool} (ho : o.op = .move x ∨ o.op = .assign x) (h : (if tk then K (ev T fr x) (drop fr x) H else K (ev T fr x).weak fr H) = some out) : Sound1 P T K out φ E w fr H a o := by
  have hr : ∀ w', Reads P o a w w' → (execOp a.eval o).run P w' = .ok (.value (a.eval x)) w' := by
    intro w' _; unfold execOp; rcases ho with ho | ho <;> rw [ho] <;> rfl
  split at h
  · exact ⟨_, _, _, h, hr, Res.taken hs a.defers x⟩
  · exact ⟨_, _, _, h, hr, Res.same hs (ev_rep hs a.defers x).weak (tokX_weakX _ _)⟩
theorem ok_move {x : Operand} {tk : Bool} (ho : o.op = .move x ∨ o.op = .assign x) (h : (if tk then K (ev T fr x) (drop fr x) H else K (ev T fr x).weak fr H) = some out) : Sound P T K out φ E w fr H a o := (ok_move1 hs ho h).sound

omit hs in
theorem Bo.ite_cases {α : Type} (q : Bo) (x y : α) : (q.get = true ∧ q.ite x y = x) ∨ (q.get = false ∧ q.ite x y = y) := by
  cases q with
  | p q i => cases i <;> simp [Bo.get, Bo.ite, *]
  | np q i => cases i <;> simp [Bo.get, Bo.ite, *]
  | b c => cases c <;> simp [Bo.get, Bo.ite]
  | nb c => cases c <;> simp [Bo.get, Bo.ite]

omit hs in
theorem boolOf_rep {v : Value} {x : X I} {q : Bo} (hr : RepX T φ H w E v x) (h : boolOf x = some q) : v = .bool q.get := by
  cases x with
  | y y =>
    cases y with
    | one c =>
      cases c with
      | bool b => simp only [boolOf, Option.some.injEq] at h; subst h; have hr : RepC T w E v (.bool b) := hr; cases hr; rfl
      | _ => simp [boolOf] at h
    | agg cs => simp [boolOf] at h
  | _ => simp [boolOf] at h

theorem ok_pick1 {c x y : Operand} (ho : o.op = .pick c x y) (h : (match boolOf (ev T fr c) with | some q => q.ite (K (ev T fr x).weak fr H) (K (ev T fr y).weak fr H) | none => none) = some out) : Sound1 P T K out φ E w fr H a o := by
  cases hq : boolOf (ev T fr c) with
  | none => simp [hq] at h
  | some q =>
    simp only [hq] at h
    have hv := boolOf_rep (ev_rep hs a.defers c) hq
    have hv' : a.eval c = .bool q.get := hv
    rcases Bo.ite_cases q (K (ev T fr x).weak fr H) (K (ev T fr y).weak fr H) with ⟨h1, h2⟩ | ⟨h1, h2⟩ <;> rw [h2] at h
    · exact ⟨a.eval x, _, _, h, (by intro w' _; unfold execOp; rw [ho]; simp [hv', asBool, h1]), Res.same hs (ev_rep hs a.defers x).weak (tokX_weakX _ _)⟩
    · exact ⟨a.eval y, _, _, h, (by intro w' _; unfold execOp; rw [ho]; simp [hv', asBool, h1]), Res.same hs (ev_rep hs a.defers y).weak (tokX_weakX _ _)⟩
theorem ok_pick {c x y : Operand} (ho : o.op = .pick c x y) (h : (match boolOf (ev T fr c) with | some q => q.ite (K (ev T fr x).weak fr H) (K (ev T fr y).weak fr H) | none => none) = some out) : Sound P T K out φ E w fr H a o := (ok_pick1 hs ho h).sound

theorem ok_one1 {c : C I} {v : Value} (hrun : ∀ w, (execOp a.eval o).run P w = .ok (.value v) w) (h : K (.c c) fr H = some out) (hr : RepC T w E v c) : Sound1 P T K out φ E w fr H a o :=
  ⟨v, _, _, h, fun w _ => hrun w, Res.same hs (x := .c c) hr.toT hr.tok⟩
/-- A value of one cell that leaves all as it is. -/
theorem ok_one {c : C I} {v : Value} (hrun : (execOp a.eval o).run P w = .ok (.value v) w) (h : K (.c c) fr H = some out) (hr : RepC T w E v c) : Sound P T K out φ E w fr H a o :=
  ⟨v, _, _, _, _, _, _, h, .inl hrun, Res.same hs (x := .c c) hr.toT hr.tok⟩
end
end Go.Proofs.YtgefikclhfjcgaaDoorEv

namespace Go.Proofs.YtgefikclhfjcgaaDoorEv
open Go Go.RowKit
set_option linter.unusedVariables false
set_option linter.unusedSectionVars false
set_option linter.unusedSimpArgs false

section
variable {I : Nat → Type} {P : Program} {T : Ty I} {w : World} {E : Nat → Nat} {φ : List Nat} {fr : Fr I} {H : Hp I} {R : Type} {out : R} {K : Kont I R} {o : Oper}

theorem rep_int {v : Value} {k : IntKind} {n : Int} (h : RepX T φ H w E v (.y (.one (.int k n)))) : v = .int k n := by
  have h : RepC T w E v (.int k n) := h
  cases h; rfl
theorem rep_str {v : Value} {s : ByteArray} (h : RepX T φ H w E v (.y (.one (.str s)))) : v = .string s := by
  have h : RepC T w E v (.str s) := h
  cases h; rfl
theorem rep_bool {v : Value} {b : Bo} (h : RepX T φ H w E v (.y (.one (.bool b)))) : v = .bool b.get := by
  have h : RepC T w E v (.bool b) := h
  cases h; rfl
theorem rep_nilp {v : Value} (h : RepX T φ H w E v (.y (.one .nilp))) : v = .pointer none := by
  have h : RepC T w E v .nilp := h
  cases h; rfl
theorem rep_ptr {v : Value} {i off : Nat} (h : RepX T φ H w E v (.y (.one (.ptr i off)))) : ∃ b, φ[i]? = some b ∧ v = .pointer (some ⟨b, off, none⟩) := h

theorem run_shift (op : BinOp) (hop : op = .shl ∨ op = .shr) (k yk : IntKind) (x y : Int) (h : ¬ y < 0) :
    Op.shift op k x yk y = pure (.int k (if op = .shl then shl k x y else shr k x y)) := by
  have hp : (0 : Int) ≤ 2 ^ (min y.toNat k.bits) := Int.pow_nonneg (by decide)
  rcases hop with rfl | rfl <;> simp [Op.shift, h, shl, shr, Int.fdiv_eq_ediv_of_nonneg _ hp]

theorem int_run {op : BinOp} {k : IntKind} {x y : Int} {K : C I → Option R} (t : TypeId) (hop : op ≠ .shl ∧ op ≠ .shr) (h : intOp op k x y K = some out) :
    ∃ c v, K c = some out ∧ (∀ w, (Go.binOp op t (.int k x) (.int k y)).run P w = .ok v w) ∧ RepC T w E v c := by
  cases op <;> simp only [intOp] at h
  case add => exact ⟨_, _, h, by intro w; simp [Go.binOp, Op.intArith], .int ..⟩
  case sub => exact ⟨_, _, h, by intro w; simp [Go.binOp, Op.intArith], .int ..⟩
  case mul => exact ⟨_, _, h, by intro w; simp [Go.binOp, Op.intArith], .int ..⟩
  case quo =>
    split at h
    · cases h
    · rename_i hy; exact ⟨_, _, h, by intro w; simp [Go.binOp, Op.intDiv, hy], .int ..⟩
  case rem =>
    split at h
    · cases h
    · rename_i hy; exact ⟨_, _, h, by intro w; simp [Go.binOp, Op.intDiv, hy], .int ..⟩
  case and => exact ⟨_, _, h, by intro w; simp [Go.binOp, intBits_and], .int ..⟩
  case or => exact ⟨_, _, h, by intro w; simp [Go.binOp, intBits_or], .int ..⟩
  case xor => exact ⟨_, _, h, by intro w; simp [Go.binOp, intBits_xor], .int ..⟩
  case andNot => exact ⟨_, _, h, by intro w; simp [Go.binOp, intBits_andNot], .int ..⟩
  case eql => exact ⟨_, _, h, by intro w; simp only [Go.binOp, Op.intCmp, ne_eq, not_true_eq_false, ↓reduceIte]; rfl, .bool (.p (x = y) inferInstance)⟩
  case neq => exact ⟨_, _, h, by intro w; simp only [Go.binOp, Op.intCmp, ne_eq, not_true_eq_false, ↓reduceIte]; rfl, .bool (.np (x = y) inferInstance)⟩
  case lss => exact ⟨_, _, h, by intro w; simp only [Go.binOp, Op.intCmp, ne_eq, not_true_eq_false, ↓reduceIte]; rfl, .bool (.p (x < y) inferInstance)⟩
  case leq => exact ⟨_, _, h, by intro w; simp only [Go.binOp, Op.intCmp, ne_eq, not_true_eq_false, ↓reduceIte]; rfl, .bool (.p (x ≤ y) inferInstance)⟩
  case gtr => exact ⟨_, _, h, by intro w; simp only [Go.binOp, Op.intCmp, ne_eq, not_true_eq_false, ↓reduceIte]; rfl, .bool (.p (x > y) inferInstance)⟩
  case geq => exact ⟨_, _, h, by intro w; simp only [Go.binOp, Op.intCmp, ne_eq, not_true_eq_false, ↓reduceIte]; rfl, .bool (.p (x ≥ y) inferInstance)⟩
  all_goals cases h

theorem beq_dec (l m : List UInt8) : (l == m) = decide (l = m) := by by_cases h : l = m <;> simp [h]

theorem str_run {op : BinOp} {x y : ByteArray} {K : C I → Option R} (t : TypeId) (h : strOp op x y K = some out) :
    ∃ c v, K c = some out ∧ (∀ w, (Go.binOp op t (.string x) (.string y)).run P w = .ok v w) ∧ RepC T w E v c := by
  cases op <;> simp only [strOp] at h
  case add =>
    split at h
    · rename_i hy; exact ⟨_, _, h, by intro w; simp only [Go.binOp]; exact run_string_add_sum w x y hy, .str _⟩
    · cases h
  case eql => exact ⟨_, _, h, by intro w; simp only [Go.binOp, Op.stringOp, Sem.run_pure, beq_dec]; rfl, .bool (.p (x.toList = y.toList) inferInstance)⟩
  case neq => exact ⟨_, _, h, by intro w; simp only [Go.binOp, Op.stringOp, Sem.run_pure, beq_dec]; rfl, .bool (.np (x.toList = y.toList) inferInstance)⟩
  case lss => exact ⟨_, _, h, by intro w; simp only [Go.binOp, Op.stringOp, Sem.run_pure]; rfl, .bool (.b _)⟩
  case leq => exact ⟨_, _, h, by intro w; simp only [Go.binOp, Op.stringOp, Sem.run_pure]; rfl, .bool (.b _)⟩
  case gtr => exact ⟨_, _, h, by intro w; simp only [Go.binOp, Op.stringOp, Sem.run_pure]; rfl, .bool (.nb _)⟩
  case geq => exact ⟨_, _, h, by intro w; simp only [Go.binOp, Op.stringOp, Sem.run_pure]; rfl, .bool (.nb _)⟩
  all_goals cases h

/-- A value of a type whose cells are these. -/
def RepV (P : Program) (T : Ty I) (φ : List Nat) (w : World) (E : Nat → Nat) (t : TypeId) (v : Value) (cs : List (C I)) : Prop :=
  if aggT P t then ∃ arr, v = .agg arr ∧ arr.size = cs.length ∧ ∀ (j : Nat) (c : C I), cs[j]? = some c → ∃ u, arr[j]? = some u ∧ RepT T φ w E u c.weak
  else ∀ c, cs = [c] → RepT T φ w E v c.weak

theorem run_isAgg {t : TypeId} {d : TypeDesc} (hu : P.underlying t = some d) : (isAgg t).run P w = .ok (aggT P t) w := by
  simp only [isAgg, Sem.run_bind, run_underlying hu, Result.andThen_ok, aggT, hu]
  cases d <;> rfl

theorem run_part {t : TypeId} {d : TypeDesc} {n off : Nat} {arr : Array Value} {cs : List (C I)} (hu : P.underlying t = some d) (hn : cellsOf P t = some n) (hpos : aggT P t = true ∨ 0 < n)
    (ha : arr.size = cs.length) (hr : ∀ (j : Nat) (c : C I), cs[j]? = some c → ∃ u, arr[j]? = some u ∧ RepT T φ w E u c.weak) (ho : off + n ≤ cs.length) :
    ∃ v, (Go.part t arr off).run P w = .ok v w ∧ RepV P T φ w E t v ((cs.drop off).take n) := by
  obtain ⟨i, hi, hsz⟩ : ∃ i, P.info? t = some i ∧ i.size = n := by
    unfold cellsOf at hn
    cases h : P.info? t with
    | none => simp [h] at hn
    | some i => exact ⟨i, rfl, by simpa [h] using hn⟩
  simp only [Go.part, Sem.run_bind, run_isAgg hu, Result.andThen_ok]
  by_cases hg : aggT P t = true
  · simp only [hg, if_true, Sem.run_bind, sizeOf, typeInfo, run_program, Result.andThen_ok, hi, Sem.run_pure, hsz]
    refine ⟨_, rfl, ?_⟩
    rw [RepV, if_pos hg]
    refine ⟨_, rfl, by simp [ha]; omega, fun j c hc => ?_⟩
    rw [List.getElem?_take] at hc
    split at hc
    · rename_i hj
      rw [List.getElem?_drop] at hc
      obtain ⟨u, hu', hr'⟩ := hr _ c hc
      refine ⟨u, ?_, hr'⟩
      rw [Array.getElem?_extract]
      have : j < min (off + n) arr.size - off := by rw [ha]; omega
      rw [if_pos this]; exact hu'
    · cases hc
  · have hn0 : 0 < n := hpos.resolve_left hg
    simp only [hg, if_false, Bool.false_eq_true]
    have hlt : off < cs.length := by omega
    obtain ⟨u, hu', hr'⟩ := hr off cs[off] (List.getElem?_eq_getElem hlt)
    simp only [hu', Sem.run_pure]
    refine ⟨u, rfl, ?_⟩
    rw [RepV, if_neg hg]
    intro c hc
    have : ((cs.drop off).take n)[0]? = some c := by rw [hc]; rfl
    rw [List.getElem?_take, if_pos hn0, List.getElem?_drop] at this
    rw [List.getElem?_eq_getElem (by omega : off + 0 < cs.length)] at this
    simp at this
    rw [← this]; exact hr'

theorem cellsOf_info {t : TypeId} {n : Nat} (hn : cellsOf P t = some n) : ∃ i, P.info? t = some i ∧ i.size = n := by
  unfold cellsOf at hn
  cases h : P.info? t with
  | none => simp [h] at hn
  | some i => exact ⟨i, rfl, by simpa [h] using hn⟩

theorem eqFs_run {d : Nat} {xs ys : Array Value} {g : Field → Option Bool}
    (hg : ∀ f r, g f = some r → ∃ a b, (Go.part f.type xs f.offset).run P w = .ok a w ∧ (Go.part f.type ys f.offset).run P w = .ok b w ∧ (Op.equalIn d f.type a b).run P w = .ok r w) :
    ∀ (fs : List Field) r, eqFs g fs = some r → (Op.eqFields d xs ys fs).run P w = .ok r w
  | [], r, h => by cases h; rfl
  | [f], r, h => by
    simp only [eqFs] at h
    split at h
    · cases h
    · rename_i hn
      obtain ⟨a, b, h1, h2, h3⟩ := hg f r h
      simp only [Op.eqFields, ne_eq, hn, not_false_eq_true, if_true, Sem.run_bind, h1, h2, h3, Result.andThen_ok]
      cases r <;> rfl
  | f :: f2 :: fs, r, h => by
    simp only [eqFs] at h
    split at h
    · cases h
    · rename_i hn
      cases hf : g f with
      | none => simp [hf] at h
      | some q =>
        simp only [hf, Option.bind_some, Option.map_eq_some_iff] at h
        obtain ⟨s, hs, rfl⟩ := h
        obtain ⟨a, b, h1, h2, h3⟩ := hg f q hf
        have ih := eqFs_run hg (f2 :: fs) s hs
        rw [Op.eqFields]
        simp only [ne_eq, hn, not_false_eq_true, if_true, Sem.run_bind, h1, h2, h3, Result.andThen_ok]
        cases q
        · rfl
        · simpa using ih

theorem eqT_run : ∀ (d : Nat) (t : TypeId) (u v : Value) (xs ys : List (C I)) (r : Bool), eqT P d t xs ys = some r → RepV P T φ w E t u xs → RepV P T φ w E t v ys →
    (Op.equalIn d t u v).run P w = .ok r w
  | 0, t, u, v, xs, ys, r, h, _, _ => by cases h
  | d + 1, t, u, v, xs, ys, r, h, hx, hy => by
    simp only [eqT] at h
    cases hu : P.underlying t with
    | none => simp [hu] at h
    | some ds =>
      have hag : aggT P t = (match ds with | .struct _ | .array _ _ => true | _ => false) := by simp only [aggT, hu]; cases ds <;> rfl
      cases ds <;> simp only [hu, reduceCtorEq] at h
      case int k0 =>
        rw [RepV, if_neg (by rw [hag]; simp)] at hx hy
        split at h
        · rename_i k a k' b
          split at h
          · rename_i e
            cases h
            have h1 : RepC T w E u (.int k a) := hx _ rfl
            have h2 : RepC T w E v (.int k' b) := hy _ rfl
            cases h1; cases h2
            subst e
            exact run_equalIn_int w d t k k0 a b hu
          · cases h
        · cases h
      case bool =>
        rw [RepV, if_neg (by rw [hag]; simp)] at hx hy
        split at h
        · rename_i a b
          cases h
          have h1 : RepC T w E u (.bool a) := hx _ rfl
          have h2 : RepC T w E v (.bool b) := hy _ rfl
          cases h1; cases h2
          exact run_equalIn_bool' w d t _ _ hu
        · cases h
      case string =>
        rw [RepV, if_neg (by rw [hag]; simp)] at hx hy
        split at h
        · rename_i a b
          cases h
          have h1 : RepC T w E u (.str a) := hx _ rfl
          have h2 : RepC T w E v (.str b) := hy _ rfl
          cases h1; cases h2
          exact run_equalIn_string w d t _ _ hu
        · cases h
      case struct fs =>
        split at h
        · cases h
        · rename_i hst
          have hst' : P.stoodInHeld t = false := by simpa using hst
          rw [RepV, if_pos (by rw [hag])] at hx hy
          obtain ⟨ax, rfl, sx, rx⟩ := hx
          obtain ⟨ay, rfl, sy, ry⟩ := hy
          have hfs : P.fieldsOf t = fs := by simp [Program.fieldsOf, hu]
          rw [run_equalIn_struct w d t ax ay (by rw [hfs]; exact hu) hst', hfs]
          refine eqFs_run ?_ _ _ h
          intro f q hq
          cases hc : cellsOf P f.type with
          | none => simp [hc] at hq
          | some n =>
            simp only [hc] at hq
            split at hq
            · rename_i ho1
              split at hq
              · rename_i ho2
                obtain ⟨df, hdf⟩ : ∃ df, P.underlying f.type = some df := by
                  cases hdf : P.underlying f.type with
                  | none =>
                    cases d with
                    | zero => cases hq
                    | succ d => simp [eqT, hdf] at hq
                  | some df => exact ⟨df, rfl⟩
                have hpos : aggT P f.type = true ∨ 0 < n := by
                  rcases Nat.eq_zero_or_pos n with e | e
                  · left
                    subst e
                    cases d with
                    | zero => cases hq
                    | succ d =>
                      simp only [eqT, hdf, List.take_zero] at hq
                      simp only [aggT, hdf]
                      cases df <;> simp_all
                  · exact .inr e
                obtain ⟨a, ha1, ha2⟩ := run_part (w := w) (φ := φ) (E := E) (T := T) hdf hc hpos sx rx ho1
                obtain ⟨b, hb1, hb2⟩ := run_part (w := w) (φ := φ) (E := E) (T := T) hdf hc hpos sy ry ho2
                exact ⟨a, b, ha1, hb1, eqT_run d f.type a b _ _ q hq ha2 hb2⟩
              · cases hq
            · cases hq
end
end Go.Proofs.YtgefikclhfjcgaaDoorEv

namespace Go.Proofs.YtgefikclhfjcgaaDoorEv
open Go Go.RowKit
set_option linter.unusedVariables false
set_option linter.unusedSectionVars false
set_option linter.unusedSimpArgs false

section
variable {I : Nat → Type} {P : Program} {T : Ty I} {w w' : World} {E E' : Nat → Nat} {φ : List Nat} {fr fr1 : Fr I} {H : Hp I} {R : Type} {out : R} {K : Kont I R} {o : Oper} {tm : Array Value} {D S : Nat → Prop}

theorem tokOf_world (h : Sim T φ E w fr H tm) (hb : ∀ (o b : Nat), live H o → φ[o]? = some b → w'.heap[b]? = w.heap[b]?) (fr1 : Fr I) (i : Ow) : tokOf φ H w' fr1 tm i = tokOf φ H w fr1 tm i := by
  cases i with
  | slot t => rfl
  | cell o j =>
    simp only [tokOf]
    cases hφ : φ[o]? with
    | none => rfl
    | some b =>
      cases hH : H[o]? with
      | none => rfl
      | some x =>
        cases x with
        | var cs => simp only [cell_of_block (hb o b (live_var hH) hφ)]
        | _ => rfl

theorem Res.of (hok : TyOK P T) (hs : Sim T φ E w fr H tm) (h1 : Sim T φ E w fr1 H tm) (ho : ∀ i b, tokOf φ H w fr1 tm i = some b → tokOf φ H w fr tm i = some b)
    (hch : Ch D w E w' E') (hD : ∀ b, b < w.heap.size → D b → ∃ i, tokOf φ H w fr tm i = some b) (ht : ∀ i b, tokOf φ H w fr1 tm i = some b → ¬ D b) (hφ : ∀ (o b : Nat), live H o → φ[o]? = some b → ¬ D b)
    {v : Value} {x : X I} (hr : RepX T φ H w' E' v x)
    (hf : ∀ b, tokX v x = some b → (∀ i, tokOf φ H w fr1 tm i ≠ some b) ∧ (∀ o : Nat, live H o → φ[o]? ≠ some b) ∧ b < w'.heap.size ∧ (Own φ H w fr tm b ∨ w.heap.size ≤ b)) :
    Res T S φ E w fr H tm v x φ E' w' fr1 H := by
  have hb : ∀ (o b : Nat), live H o → φ[o]? = some b → w'.heap[b]? = w.heap[b]? := fun o b l q => (hch.keep b (hs.zero o b q).2 (hφ o b l q)).1
  have key := tokOf_world (w' := w') hs hb fr1
  refine { sim := h1.world hok.len hch ht hφ, rep := hr, free := ?_, ch := hch.mono (fun b hb q => .inr (hD b hb q)), own := ?_, pre := fun _ _ q => q, rows := fun _ _ q => q }
  · intro b q
    obtain ⟨k1, k2, k3, _⟩ := hf b q
    exact ⟨fun i => by rw [key]; exact k1 i, k2, k3⟩
  · intro b q
    rcases q with q | q
    · rcases q with q | ⟨i, q⟩
      · exact .inl (.inl q)
      · rw [key] at q; exact .inl (.inr ⟨i, ho i b q⟩)
    · exact (hf b q).2.2.2

theorem run_ptr_nil {t e : TypeId} {d : Nat} {p : Addr} (hu : P.underlying t = some (.pointer e)) : (Op.equalIn (d + 1) t (.pointer (some p)) (.pointer none)).run P w = .ok false w := by
  simp only [Op.equalIn, Sem.run_bind, run_underlying hu, Result.andThen_ok, Sem.run_pure]
theorem run_eq_nil {t e : TypeId} {d : Nat} (hu : P.underlying t = some (.pointer e)) : (Op.equalIn (d + 1) t (.pointer none) (.pointer none)).run P w = .ok true w := by
  simp only [Op.equalIn, Sem.run_bind, run_underlying hu, Result.andThen_ok, Sem.run_pure]; rfl

section
variable {a : Act} (hs : Sim T φ E w fr H a.tmps)
include hs

theorem ok_unOp1 {op : UnOp} {t : TypeId} {x : Operand} (ho : o.op = .unOp op t x) (h : unOp op (ev T fr x) (fun c => K (.c c) fr H) = some out) : Sound1 P T K out φ E w fr H a o := by
  have hx := ev_rep hs a.defers x
  unfold unOp at h
  split at h
  · rename_i b e
    rw [e] at hx
    have hv : a.eval x = .bool b.get := rep_bool hx
    refine ok_one1 hs (v := .bool !b.get) (by intro w; unfold execOp; rw [ho]; simp [hv, Op.unary]) h ?_
    have : (!b.get) = b.not.get := by cases b <;> simp [Bo.get, Bo.not]
    rw [this]; exact .bool _
  · rename_i k n e
    rw [e] at hx
    have hv : a.eval x = .int k n := rep_int hx
    exact ok_one1 hs (by intro w; unfold execOp; rw [ho]; simp [hv, Op.unary, Op.intArith]) h (.int k _)
  · rename_i k n e
    rw [e] at hx
    have hv : a.eval x = .int k n := rep_int hx
    exact ok_one1 hs (by intro w; unfold execOp; rw [ho]; simp only [hv, Op.unary, intBits_xor, Sem.run_bind, Sem.run_pure, Result.andThen_ok]) h (.int k _)
  · cases h
theorem ok_unOp {op : UnOp} {t : TypeId} {x : Operand} (ho : o.op = .unOp op t x) (h : unOp op (ev T fr x) (fun c => K (.c c) fr H) = some out) : Sound P T K out φ E w fr H a o := (ok_unOp1 hs ho h).sound

omit hs in
theorem guard_one {op : BinOp} {t : TypeId} {x y : Operand} {u v : Value} (hu : (∀ z, u ≠ .agg z) ∧ u ≠ .nilIface) : (eqGuard op t x y u v).run P w = .ok () w := by
  cases u <;> first | exact absurd rfl (hu.1 _) | exact absurd rfl hu.2 | (cases op <;> simp [eqGuard])

set_option maxHeartbeats 1000000 in
theorem ok_binOp1 {op : BinOp} {t yt : TypeId} {x y : Operand} (ho : o.op = .binOp op t x y yt) (hp : plainX (ev T fr x) = true) (h : Go.Proofs.YtgefikclhfjcgaaDoorEv.binOp P op t (ev T fr x) (ev T fr y) (fun c => K (.c c) fr H) = some out) : Sound1 P T K out φ E w fr H a o := by
  have hx := ev_rep hs a.defers x
  have hy := ev_rep hs a.defers y
  have hrun : ∀ {v : Value}, (∀ w, (eqGuard op t x y (a.eval x) (a.eval y)).run P w = .ok () w) → (∀ w, (Go.binOp op t (a.eval x) (a.eval y)).run P w = .ok v w) → ∀ w, (execOp a.eval o).run P w = .ok (.value v) w := by
    intro v h1 h2 w
    unfold execOp; rw [ho]
    simp only [Sem.run_bind, h1, h2, Result.andThen_ok, Sem.run_pure]
  unfold Go.Proofs.YtgefikclhfjcgaaDoorEv.binOp at h
  split at h
  · rename_i k n k' n' e1 e2
    rw [e1] at hx; rw [e2] at hy
    have hvx : a.eval x = .int k n := rep_int hx
    have hvy : a.eval y = .int k' n' := rep_int hy
    have hg : ∀ w, (eqGuard op t x y (a.eval x) (a.eval y)).run P w = .ok () w := by intro w; rw [hvx]; exact guard_one ⟨fun z q => (nomatch q), fun q => (nomatch q)⟩
    split at h
    · split at h
      · cases h
      · rename_i hn
        exact ok_one1 hs (hrun hg (by intro w; rw [hvx, hvy]; simp only [Go.binOp]; rw [run_shift .shl (.inl rfl) k k' n n' hn]; rfl)) h (.int k _)
    · split at h
      · cases h
      · rename_i hn
        exact ok_one1 hs (hrun hg (by intro w; rw [hvx, hvy]; simp only [Go.binOp]; rw [run_shift .shr (.inr rfl) k k' n n' hn]; rfl)) h (.int k _)
    · rename_i h1 h2
      split at h
      · rename_i e
        subst e
        obtain ⟨c, v, hk, hr, hrep⟩ := int_run (P := P) (T := T) (w := w) (E := E) t ⟨h1, h2⟩ h
        exact ok_one1 hs (hrun hg (by intro w; rw [hvx, hvy]; exact hr w)) hk hrep
      · cases h
  · rename_i s s' e1 e2
    rw [e1] at hx; rw [e2] at hy
    have hvx : a.eval x = .string s := rep_str hx
    have hvy : a.eval y = .string s' := rep_str hy
    have hg : ∀ w, (eqGuard op t x y (a.eval x) (a.eval y)).run P w = .ok () w := by intro w; rw [hvx]; exact guard_one ⟨fun z q => (nomatch q), fun q => (nomatch q)⟩
    obtain ⟨c, v, hk, hr, hrep⟩ := str_run (P := P) (T := T) (w := w) (E := E) t h
    exact ok_one1 hs (hrun hg (by intro w; rw [hvx, hvy]; exact hr w)) hk hrep
  · rename_i p q e1 e2
    rw [e1] at hx; rw [e2] at hy
    have hvx : a.eval x = .bool p.get := rep_bool hx
    have hvy : a.eval y = .bool q.get := rep_bool hy
    have hg : ∀ w, (eqGuard op t x y (a.eval x) (a.eval y)).run P w = .ok () w := by intro w; rw [hvx]; exact guard_one ⟨fun z q => (nomatch q), fun q => (nomatch q)⟩
    split at h
    · rename_i hu
      exact ok_one1 hs (hrun hg (by intro w; rw [hvx, hvy]; simp only [Go.binOp, Op.equal, Op.maxDepth, Sem.run_bind, run_equalIn_bool' w 9999 t _ _ hu, Result.andThen_ok, Sem.run_pure]; rfl)) h (.bool (.b _))
    · rename_i hu
      exact ok_one1 hs (hrun hg (by intro w; rw [hvx, hvy]; simp only [Go.binOp, Op.equal, Op.maxDepth, Sem.run_bind, run_equalIn_bool' w 9999 t _ _ hu, Result.andThen_ok, Sem.run_pure]; rfl)) h (.bool (.nb _))
    · cases h
  · rename_i i1 o1 e1 e2
    rw [e1] at hp; cases hp
  · rename_i e1 e2
    rw [e1] at hp; cases hp
  · rename_i xs ys e1 e2
    rw [e1] at hp; cases hp
  · cases h

set_option maxHeartbeats 1000000 in
theorem ok_binOp {op : BinOp} {t yt : TypeId} {x y : Operand} (ho : o.op = .binOp op t x y yt) (h : Go.Proofs.YtgefikclhfjcgaaDoorEv.binOp P op t (ev T fr x) (ev T fr y) (fun c => K (.c c) fr H) = some out) : Sound P T K out φ E w fr H a o := by
  have hx := ev_rep hs a.defers x
  have hy := ev_rep hs a.defers y
  have hrun : ∀ {v : Value}, (eqGuard op t x y (a.eval x) (a.eval y)).run P w = .ok () w → (Go.binOp op t (a.eval x) (a.eval y)).run P w = .ok v w → (execOp a.eval o).run P w = .ok (.value v) w := by
    intro v h1 h2
    unfold execOp; rw [ho]
    simp only [Sem.run_bind, h1, h2, Result.andThen_ok, Sem.run_pure]
  unfold Go.Proofs.YtgefikclhfjcgaaDoorEv.binOp at h
  split at h
  · rename_i k n k' n' e1 e2
    rw [e1] at hx; rw [e2] at hy
    have hvx : a.eval x = .int k n := rep_int hx
    have hvy : a.eval y = .int k' n' := rep_int hy
    have hg : (eqGuard op t x y (a.eval x) (a.eval y)).run P w = .ok () w := by rw [hvx]; exact guard_one ⟨fun z q => (nomatch q), fun q => (nomatch q)⟩
    split at h
    · split at h
      · cases h
      · rename_i hn
        exact ok_one hs (hrun hg (by rw [hvx, hvy]; simp only [Go.binOp]; rw [run_shift .shl (.inl rfl) k k' n n' hn]; rfl)) h (.int k _)
    · split at h
      · cases h
      · rename_i hn
        exact ok_one hs (hrun hg (by rw [hvx, hvy]; simp only [Go.binOp]; rw [run_shift .shr (.inr rfl) k k' n n' hn]; rfl)) h (.int k _)
    · rename_i h1 h2
      split at h
      · rename_i e
        subst e
        obtain ⟨c, v, hk, hr, hrep⟩ := int_run (P := P) (T := T) (w := w) (E := E) t ⟨h1, h2⟩ h
        exact ok_one hs (hrun hg (by rw [hvx, hvy]; exact hr w)) hk hrep
      · cases h
  · rename_i s s' e1 e2
    rw [e1] at hx; rw [e2] at hy
    have hvx : a.eval x = .string s := rep_str hx
    have hvy : a.eval y = .string s' := rep_str hy
    have hg : (eqGuard op t x y (a.eval x) (a.eval y)).run P w = .ok () w := by rw [hvx]; exact guard_one ⟨fun z q => (nomatch q), fun q => (nomatch q)⟩
    obtain ⟨c, v, hk, hr, hrep⟩ := str_run (P := P) (T := T) (w := w) (E := E) t h
    exact ok_one hs (hrun hg (by rw [hvx, hvy]; exact hr w)) hk hrep
  · rename_i p q e1 e2
    rw [e1] at hx; rw [e2] at hy
    have hvx : a.eval x = .bool p.get := rep_bool hx
    have hvy : a.eval y = .bool q.get := rep_bool hy
    have hg : (eqGuard op t x y (a.eval x) (a.eval y)).run P w = .ok () w := by rw [hvx]; exact guard_one ⟨fun z q => (nomatch q), fun q => (nomatch q)⟩
    split at h
    · rename_i hu
      exact ok_one hs (hrun hg (by rw [hvx, hvy]; simp only [Go.binOp, Op.equal, Op.maxDepth, Sem.run_bind, run_equalIn_bool' w 9999 t _ _ hu, Result.andThen_ok, Sem.run_pure]; rfl)) h (.bool (.b _))
    · rename_i hu
      exact ok_one hs (hrun hg (by rw [hvx, hvy]; simp only [Go.binOp, Op.equal, Op.maxDepth, Sem.run_bind, run_equalIn_bool' w 9999 t _ _ hu, Result.andThen_ok, Sem.run_pure]; rfl)) h (.bool (.nb _))
    · cases h
  · rename_i i1 o1 e1 e2
    rw [e1] at hx; rw [e2] at hy
    obtain ⟨b, hb, hvx'⟩ := rep_ptr hx
    have hvx : a.eval x = .pointer (some ⟨b, o1, none⟩) := hvx'
    have hvy : a.eval y = .pointer none := rep_nilp hy
    have hg : (eqGuard op t x y (a.eval x) (a.eval y)).run P w = .ok () w := by rw [hvx]; exact guard_one ⟨fun z q => (nomatch q), fun q => (nomatch q)⟩
    split at h
    · rename_i e hu
      exact ok_one hs (hrun hg (by rw [hvx, hvy]; simp only [Go.binOp, Op.equal, Op.maxDepth, Sem.run_bind, run_eq_nil hu, run_ptr_nil hu, Result.andThen_ok, Sem.run_pure]; rfl)) h (.bool (.b _))
    · rename_i e hu
      exact ok_one hs (hrun hg (by rw [hvx, hvy]; simp only [Go.binOp, Op.equal, Op.maxDepth, Sem.run_bind, run_eq_nil hu, run_ptr_nil hu, Result.andThen_ok, Sem.run_pure]; rfl)) h (.bool (.b _))
    · cases h
  · rename_i e1 e2
    rw [e1] at hx; rw [e2] at hy
    have hvx : a.eval x = .pointer none := rep_nilp hx
    have hvy : a.eval y = .pointer none := rep_nilp hy
    have hg : (eqGuard op t x y (a.eval x) (a.eval y)).run P w = .ok () w := by rw [hvx]; exact guard_one ⟨fun z q => (nomatch q), fun q => (nomatch q)⟩
    split at h
    · rename_i e hu
      exact ok_one hs (hrun hg (by rw [hvx, hvy]; simp only [Go.binOp, Op.equal, Op.maxDepth, Sem.run_bind, run_eq_nil hu, run_ptr_nil hu, Result.andThen_ok, Sem.run_pure]; rfl)) h (.bool (.b _))
    · rename_i e hu
      exact ok_one hs (hrun hg (by rw [hvx, hvy]; simp only [Go.binOp, Op.equal, Op.maxDepth, Sem.run_bind, run_eq_nil hu, run_ptr_nil hu, Result.andThen_ok, Sem.run_pure]; rfl)) h (.bool (.b _))
    · cases h
  · rename_i xs ys e1 e2
    rw [e1] at hx; rw [e2] at hy
    split at h
    · rename_i r hr
      split at hr
      · cases hr
      · rename_i hgd
        split at hr
        case isFalse => cases hr
        rename_i hgt
        obtain ⟨ax, hvx', sx, rx⟩ := hx
        obtain ⟨ay, hvy', sy, ry⟩ := hy
        have hvx : a.eval x = .agg ax := hvx'
        have hvy : a.eval y = .agg ay := hvy'
        have hq := eqT_run (w := w) (φ := φ) (E := E) (T := T) Op.maxDepth t (.agg ax) (.agg ay) xs ys r hr (by rw [RepV, if_pos hgt]; exact ⟨ax, rfl, sx, rx⟩) (by rw [RepV, if_pos hgt]; exact ⟨ay, rfl, sy, ry⟩)
        have hg : (eqGuard op t x y (a.eval x) (a.eval y)).run P w = .ok () w := by rw [hvx, hvy]; exact run_eqGuard_agg w op t x y ax ay (by simpa using hgd)
        split at h
        · exact ok_one hs (hrun hg (by rw [hvx, hvy]; simp only [Go.binOp, Op.equal, Sem.run_bind, hq, Result.andThen_ok, Sem.run_pure]; rfl)) h (.bool (.b _))
        · exact ok_one hs (hrun hg (by rw [hvx, hvy]; simp only [Go.binOp, Op.equal, Sem.run_bind, hq, Result.andThen_ok, Sem.run_pure]; rfl)) h (.bool (.nb _))
        · cases h
    · cases h
  · cases h
end
end
end Go.Proofs.YtgefikclhfjcgaaDoorEv

namespace Go.Proofs.YtgefikclhfjcgaaDoorEv
open Go Go.RowKit
set_option linter.unusedVariables false
set_option linter.unusedSectionVars false
set_option linter.unusedSimpArgs false

section
variable {I : Nat → Type} {P : Program} {T : Ty I} {w w' : World} {E E' : Nat → Nat} {φ : List Nat} {fr fr1 : Fr I} {H : Hp I} {R : Type} {out : R} {K : Kont I R} {o : Oper} {tm : Array Value} {D S : Nat → Prop}

theorem add_at (b off j : Nat) : (⟨b, off, none⟩ : Addr).add j = ⟨b, off + j, none⟩ := by
  unfold Addr.add; split
  · rename_i h; subst h; rfl
  · rfl

theorem castL_eq {e e' : Nat} {l : List (I e)} {l' : List (I e')} (h : castL l = some l') : ∃ he : e = e', l' = he ▸ l := by
  unfold castL at h
  split at h
  · rename_i he; cases h; exact ⟨he, rfl⟩
  · cases h

theorem listOf_rep {v : Value} {c : C I} {e : Nat} {l : List (I e)} (h : RepT T φ w E v c) (hl : listOf e c = some l) : RepC T w E v (.sl e l) := by
  cases c <;> simp only [listOf, reduceCtorEq] at hl
  case nils => cases hl; have h : RepC T w E v .nils := h; cases h; exact .nilsl e none
  case sl e' l' => obtain ⟨rfl, rfl⟩ := castL_eq hl; exact h
  case acc e' l' => obtain ⟨rfl, rfl⟩ := castL_eq hl; exact h.1
  case lit e' x => obtain ⟨rfl, rfl⟩ := castL_eq hl; exact h.1

/-- A slice that reads as a list. -/
theorem sl_inv {v : Value} {e : Nat} {l : List (I e)} (h : RepC T w E v (.sl e l)) : (∃ a, v = .slice a 0 0 ∧ l = []) ∨
    ∃ (b off cap : Nat) (val : Nat → Nat → Value), v = .slice (some ⟨b, off, none⟩) l.length cap ∧ off + l.length * T.sz e ≤ E b ∧ l.length ≤ cap ∧
      (∀ (i : Nat) x, l[i]? = some x → ∀ (j : Nat) c, (T.cells e x)[j]? = some c → w.cell? ⟨b, off + (i * T.sz e + j), none⟩ = some (val i j) ∧ RepC T w E (val i j) c) := by
  cases h with
  | nilsl _ a => exact .inl ⟨a, rfl, rfl⟩
  | sl _ _ b off cap val hE hcap hc hr => exact .inr ⟨b, off, cap, val, rfl, hE, hcap, fun i x hi j c hj => ⟨hc i x hi j c hj, hr i x hi j c hj⟩⟩

theorem sl_len {v : Value} {e : Nat} {l : List (I e)} (h : RepC T w E v (.sl e l)) : ∃ a cap, v = .slice a l.length cap ∧ (a = none → l.length = 0 ∧ cap = 0) := by
  rcases sl_inv h with ⟨a, rfl, rfl⟩ | ⟨b, off, cap, val, rfl, _⟩
  · exact ⟨a, 0, rfl, fun _ => ⟨rfl, rfl⟩⟩
  · exact ⟨_, _, rfl, fun q => by cases q⟩

theorem foldl_push : ∀ (ns : List Int) (r : ByteArray), ns.foldl (fun r n => r.push (UInt8.ofNat n.toNat)) r = ⟨r.data ++ (ns.map fun n => UInt8.ofNat n.toNat).toArray⟩
  | [], r => by simp
  | n :: ns, r => by rw [List.foldl_cons, foldl_push ns]; simp [ByteArray.push]

theorem int_of_rep {v : Value} {k : IntKind} {n : Int} (h : RepC T w E v (.int k n)) : v = .int k n := by cases h; rfl

/-- So much of a new block nobody writes. -/
def pub (E : Nat → Nat) (b n : Nat) : Nat → Nat := fun k => if k = b then n else E k

theorem pub_here (E : Nat → Nat) (b n : Nat) : pub E b n b = n := by simp [pub]
theorem pub_other (E : Nat → Nat) (b n k : Nat) (h : k ≠ b) : pub E b n k = E k := by simp [pub, h]

theorem fresh_ch (hs : Sim T φ E w fr H tm) {w0 : World} (h0 : w0.heap = w.heap ∧ w0.os = w.os ∧ w0.tape = w.tape ∧ w0.output = w.output) (ob : Obj) (n : Nat) (D : Nat → Prop) :
    Ch D w E (w0.alloc ob) (pub E w.heap.size n) := by
  have hh : ∀ k, k < w.heap.size → (w0.alloc ob).heap[k]? = w.heap[k]? := fun k hk => by rw [Below.heap_alloc w0 ob k (by rw [h0.1]; exact hk), h0.1]
  have hz : ∀ k, ¬ k < w.heap.size → E k = 0 := fun k hk => hs.fresh k (Nat.le_of_not_lt hk)
  refine ⟨h0.2.1, h0.2.2.1, h0.2.2.2, ?_, fun b hb _ => ⟨hh b hb, pub_other E _ n b (by omega)⟩, fun b => ?_, fun b off ho => ?_, fun b hb => ?_, fun b n => ?_⟩
  · have := World.size_alloc w0 ob; rw [h0.1] at this; omega
  · by_cases e : b = w.heap.size
    · subst e; rw [hz _ (Nat.lt_irrefl _)]; exact Nat.zero_le _
    · rw [pub_other E _ n b e]; exact Nat.le_refl _
  · have hb : b < w.heap.size := by
      rcases Nat.lt_or_ge b w.heap.size with q | q
      · exact q
      · rw [hz b (by omega)] at ho; omega
    exact cell_of_block (hh b hb) off
  · have := World.size_alloc w0 ob; rw [h0.1] at this
    rw [pub_other E _ n b (by omega)]; exact hs.fresh b (by omega)
  · rintro ⟨arr, ty, q1, q2⟩
    exact ⟨arr, ty, (hh b (Array.getElem?_eq_some_iff.1 q1).1).trans q1, q2⟩

theorem alloc_here (w0 : World) (arr : Array Value) (ty : TypeId) (fz : Nat × Nat) : (w0.alloc (.cells arr ty fz)).heap[w0.heap.size]? = some (.cells arr ty fz) := by
  show (w0.heap.push _)[w0.heap.size]? = _; simp

theorem fresh_rep (hok : TyOK P T) (hs : Sim T φ E w fr H tm) {w0 : World} (h0 : w0.heap = w.heap ∧ w0.os = w.os ∧ w0.tape = w.tape ∧ w0.output = w.output) (arr : Array Value) (ty : TypeId) (fz : Nat × Nat) {e : Nat} (l : List (I e)) (cap : Nat) (hcap : l.length ≤ cap)
    (hc : ∀ (i : Nat) x, l[i]? = some x → ∀ (j : Nat) c, (T.cells e x)[j]? = some c → ∃ u, arr[i * T.sz e + j]? = some u ∧ RepC T w E u c) :
    RepC T (w0.alloc (.cells arr ty fz)) (pub E w.heap.size (l.length * T.sz e)) (.slice (some ⟨w.heap.size, 0, none⟩) l.length cap) (.sl e l) := by
  have hch := fresh_ch hs h0 (.cells arr ty fz) (l.length * T.sz e) (fun _ => False)
  have hcell : ∀ k, (w0.alloc (.cells arr ty fz)).cell? ⟨w.heap.size, k, none⟩ = arr[k]? := fun k => by
    have := alloc_here w0 arr ty fz
    rw [h0.1] at this
    simp [World.cell?, this]
  refine .sl e l w.heap.size 0 cap (fun i j => (arr[i * T.sz e + j]?).getD undef) (by rw [pub_here]; omega) hcap (fun i x hi j c hj => ?_) (fun i x hi j c hj => ?_)
  · obtain ⟨u, hu, _⟩ := hc i x hi j c hj
    rw [hcell, Nat.zero_add, hu]; rfl
  · obtain ⟨u, hu, hr⟩ := hc i x hi j c hj
    simp only [hu, Option.getD_some]
    exact hr.ch hok.len hch.ext hch.cells

theorem fresh_tok {w0 : World} (h0 : w0.heap = w.heap) (arr : Array Value) (ty : TypeId) (n sz cap : Nat) (hsz : cap * sz ≤ arr.size) :
    Tok (w0.alloc (.cells arr ty)) (pub E w.heap.size (n * sz)) sz (.slice (some ⟨w.heap.size, 0, none⟩) n cap) := by
  intro hl
  have := alloc_here w0 arr ty (0, 0)
  rw [h0] at this
  exact ⟨by show pub E w.heap.size (n * sz) w.heap.size = 0 + n * sz; rw [pub_here]; omega, arr, ty, this, by show 0 + cap * sz ≤ arr.size; omega⟩

/-- A new list that nobody writes any more. -/
theorem Res.freshSl (hok : TyOK P T) (hs : Sim T φ E w fr H tm) {w0 : World} (h0 : w0.heap = w.heap ∧ w0.os = w.os ∧ w0.tape = w.tape ∧ w0.output = w.output) (arr : Array Value) (ty : TypeId) (fz : Nat × Nat) {e : Nat} (l : List (I e)) (cap : Nat) (hcap : l.length ≤ cap)
    (hc : ∀ (i : Nat) x, l[i]? = some x → ∀ (j : Nat) c, (T.cells e x)[j]? = some c → ∃ u, arr[i * T.sz e + j]? = some u ∧ RepC T w E u c) :
    Res T S φ E w fr H tm (.slice (some ⟨w.heap.size, 0, none⟩) l.length cap) (.c (.sl e l)) φ (pub E w.heap.size (l.length * T.sz e)) (w0.alloc (.cells arr ty fz)) fr H :=
  Res.of hok hs hs (fun _ _ q => q) (fresh_ch hs h0 _ _ (fun _ => False)) (fun _ _ q => q.elim) (fun _ _ _ q => q) (fun _ _ _ _ q => q)
    (fresh_rep hok hs h0 arr ty fz l cap hcap hc) (fun b q => by cases q)

theorem size_pos_of_alloc (w0 : World) (ob : Obj) (h0 : w0.heap = w.heap) : w.heap.size < (w0.alloc ob).heap.size := by
  have := World.size_alloc w0 ob; rw [h0] at this; omega

/-- A new list with the right to append to it. -/
theorem Res.freshAcc (hok : TyOK P T) (hs : Sim T φ E w fr H tm) (h1 : Sim T φ E w fr1 H tm) (ho : ∀ i b, tokOf φ H w fr1 tm i = some b → tokOf φ H w fr tm i = some b)
    {w0 : World} (h0 : w0.heap = w.heap ∧ w0.os = w.os ∧ w0.tape = w.tape ∧ w0.output = w.output) (arr : Array Value) (ty : TypeId) {e : Nat} (l : List (I e)) (cap : Nat) (hcap : l.length ≤ cap) (hsz : cap * T.sz e ≤ arr.size)
    (hc : ∀ (i : Nat) x, l[i]? = some x → ∀ (j : Nat) c, (T.cells e x)[j]? = some c → ∃ u, arr[i * T.sz e + j]? = some u ∧ RepC T w E u c)
    (c : C I) (hcc : c = .acc e l ∨ ∃ x, c = .lit e x ∧ l = [x]) :
    Res T S φ E w fr H tm (.slice (some ⟨w.heap.size, 0, none⟩) l.length cap) (.c c) φ (pub E w.heap.size (l.length * T.sz e)) (w0.alloc (.cells arr ty)) fr1 H := by
  have hrep := fresh_rep hok hs h0 arr ty (0, 0) l cap hcap hc
  have htok := fresh_tok (E := E) h0.1 arr ty l.length (T.sz e) cap hsz
  have hb : ∀ b, tokX (.slice (some ⟨w.heap.size, 0, none⟩) l.length cap) (.c c) = some b → b = w.heap.size := by
    intro b q
    have : tokV (.slice (some ⟨w.heap.size, 0, none⟩) l.length cap) = some b := by
      rcases hcc with rfl | ⟨x, rfl, _⟩ <;> exact q
    simp only [tokV] at this
    split at this
    · cases this; rfl
    · cases this
  refine Res.of hok hs h1 ho (fresh_ch hs h0 _ _ (fun _ => False)) (fun _ _ q => q.elim) (fun _ _ _ q => q) (fun _ _ _ _ q => q) ?_ (fun b q => ?_)
  · rcases hcc with rfl | ⟨x, rfl, rfl⟩
    · exact ⟨hrep, htok⟩
    · exact ⟨hrep, htok⟩
  · have := hb b q
    subst this
    exact ⟨fun i q => by have := hs.tlt i _ (ho i _ q); omega, fun o _ q => by have := (hs.zero o _ q).2; omega, size_pos_of_alloc w0 _ h0.1, .inr (Nat.le_refl _)⟩

/-- A new slice that its holder alone may write. -/
theorem Res.freshOwn (hok : TyOK P T) (hs : Sim T φ E w fr H tm) (h1 : Sim T φ E w fr1 H tm) (ho : ∀ i b, tokOf φ H w fr1 tm i = some b → tokOf φ H w fr tm i = some b)
    {w0 : World} (h0 : w0.heap = w.heap ∧ w0.os = w.os ∧ w0.tape = w.tape ∧ w0.output = w.output) (arr : Array Value) (ty : TypeId) {e : Nat} (l : List (I e)) (cap : Nat) (hcap : l.length ≤ cap) (hc0 : 0 < l.length) (hsz : cap * T.sz e ≤ arr.size)
    (hc : ∀ (i : Nat) x, l[i]? = some x → ∀ (j : Nat) c, (T.cells e x)[j]? = some c → ∃ u, arr[i * T.sz e + j]? = some u ∧ RepC T w E u c) :
    Res T S φ E w fr H tm (.slice (some ⟨w.heap.size, 0, none⟩) l.length cap) (.c (.own e l)) φ (pub E w.heap.size 0) (w0.alloc (.cells arr ty)) fr1 H := by
  have hch := fresh_ch hs h0 (.cells arr ty) 0 (fun _ => False)
  refine Res.of hok hs h1 ho hch (fun _ _ q => q.elim) (fun _ _ _ q => q) (fun _ _ _ _ q => q) ?_ (fun b q => ?_)
  · have hh := alloc_here w0 arr ty (0, 0)
    rw [h0.1] at hh
    exact .inr ⟨_, cap, arr, ty, rfl, hc0, hcap, pub_here _ _ _, hh, hsz, fun i x hi j c hj => by
      obtain ⟨u, hu, hr⟩ := hc i x hi j c hj
      exact ⟨u, hu, hr.ch hok.len hch.ext hch.cells⟩⟩
  · have : b = w.heap.size := by
      have q : tokW (.slice (some ⟨w.heap.size, 0, none⟩) l.length cap) = some b := q
      simp only [tokW, if_pos (show 0 < cap by omega)] at q
      cases q; rfl
    subst this
    exact ⟨fun i q => by have := hs.tlt i _ (ho i _ q); omega, fun o _ q => by have := (hs.zero o _ q).2; omega, size_pos_of_alloc w0 _ h0.1, .inr (Nat.le_refl _)⟩

section
variable {a : Act} (hs : Sim T φ E w fr H a.tmps) (hok : TyOK P T)
include hs hok

theorem ok_convert {src dst : TypeId} {x : Operand} (ho : o.op = .convert src dst x) (h : Go.Proofs.YtgefikclhfjcgaaDoorEv.convert P T src dst (ev T fr x) (fun c => K (.c c) fr H) = some out) : Sound P T K out φ E w fr H a o := by
  have hx := ev_rep hs a.defers x
  have hrun : ∀ {v : Value}, (Go.convert src dst (a.eval x)).run P w = .ok v w → (execOp a.eval o).run P w = .ok (.value v) w := by
    intro v h2; unfold execOp; rw [ho]; simp only [Sem.run_bind, h2, Result.andThen_ok, Sem.run_pure]
  unfold Go.Proofs.YtgefikclhfjcgaaDoorEv.convert at h
  split at h
  · rename_i q1 q2 q3 k0 k k' n h1 h2 e
    rw [e] at hx
    have hv : a.eval x = .int k' n := rep_int hx
    exact ok_one hs (hrun (by rw [hv]; simp only [Go.convert, Sem.run_bind, run_underlying h1, run_underlying h2, Result.andThen_ok, Conv.intToInt, Sem.run_pure])) h (.int k _)
  · rename_i q1 q2 q3 s h1 h2 e
    rw [e] at hx
    have hv : a.eval x = .string s := rep_str hx
    exact ok_one hs (hrun (by rw [hv]; simp only [Go.convert, Sem.run_bind, run_underlying h1, run_underlying h2, Result.andThen_ok, Sem.run_pure])) h (.str s)
  · rename_i q1 q2 q3 e c h1 h2 hc
    rw [hc] at hx
    split at h
    · rename_i q4 q5 l he hl
      have hr := listOf_rep (φ := φ) hx hl
      cases hn : nums T e l with
      | none => simp [hn] at h
      | some ns =>
        simp only [hn] at h
        simp only [nums, Option.map_eq_some_iff] at hn
        obtain ⟨q, hq, rfl⟩ := hn
        obtain ⟨-, hq2⟩ := hok.u8 e q hq
        obtain ⟨hlen, hel⟩ := hq2 l
        rcases sl_inv hr with ⟨ad, hv, rfl⟩ | ⟨b, off, cap, val, hv, hE, hcap, hc⟩
        · have hv : a.eval x = .slice ad 0 0 := hv
          have hnil : q.2 [] = [] := List.length_eq_zero_iff.1 (by simpa using hlen)
          rw [hnil] at h
          exact ok_one hs (hrun (by rw [hv, run_convert_bytes_string w src dst e ad 0 0 h1 he h2]; cases ad <;> rfl)) h (.str _)
        · have hv : a.eval x = .slice (some ⟨b, off, none⟩) l.length cap := hv
          have hld : (loadCells ⟨b, off, none⟩ l.length).run P w = .ok ((q.2 l).map (Value.int .u8)).toArray w := by
            have := run_loadCells_list (P := P) w ⟨b, off, none⟩ ((q.2 l).map (Value.int .u8)) (fun j v hj => by
              simp only [List.getElem?_map, Option.map_eq_some_iff] at hj
              obtain ⟨n, hn, rfl⟩ := hj
              have hjl : j < l.length := by rw [← hlen]; exact (List.getElem?_eq_some_iff.1 hn).1
              obtain ⟨n', hn', hcell⟩ := hel j l[j] (List.getElem?_eq_getElem hjl)
              rw [hn'] at hn; cases hn
              have h1 : T.sz e = 1 := by rw [← hok.len e l[j], hcell]; rfl
              obtain ⟨c1, c2⟩ := hc j l[j] (List.getElem?_eq_getElem hjl) 0 (.int .u8 n) (by rw [hcell]; rfl)
              rw [add_at]
              have : off + j = off + (j * T.sz e + 0) := by rw [h1]; omega
              rw [this, c1, int_of_rep c2])
            rw [show ((q.2 l).map (Value.int .u8)).length = l.length by simp [hlen]] at this
            exact this
          refine ok_one hs (hrun ?_) h (.str _)
          rw [hv, run_convert_bytes_string w src dst e _ _ _ h1 he h2, run_bytesToString w _ _ _ _ hld, foldl_push]
          rw [show ByteArray.empty.data = #[] from rfl, Array.empty_append]
          rfl
    · cases h
  · rename_i q1 q2 q3 e s h1 h2 hc
    rw [hc] at hx
    have hv : a.eval x = .string s := rep_str hx
    split at h
    · rename_i q4 q5 q he hq
      split at h
      · rename_i hsz
        obtain ⟨hq1, -⟩ := hok.u8 e q hq
        obtain ⟨hlen, hel⟩ := hq1 (bytesOf s)
        have hrun2 := run_bytes_of_string (P := P) w src dst e s h1 h2 he
        have hbl : (bytesOf s).length = s.size := by rw [bytesOf, List.length_map, ByteArray.toList_eq]; rfl
        have hrow : ∀ (i : Nat) x, (q.1 (bytesOf s))[i]? = some x → ∃ n, (bytesOf s)[i]? = some n ∧ T.cells e x = [.int .u8 n] ∧ i < s.size := by
          intro i x hi
          have hil : i < (bytesOf s).length := by rw [← hlen]; exact (List.getElem?_eq_some_iff.1 hi).1
          obtain ⟨x', hx', hcell⟩ := hel i _ (List.getElem?_eq_getElem hil)
          rw [hx'] at hi; cases hi
          exact ⟨_, List.getElem?_eq_getElem hil, hcell, by omega⟩
        have hres := Res.freshSl (S := wrOf T fr o) hok hs (w0 := w.drew) ⟨rfl, rfl, rfl, rfl⟩ (bytesRow s (grownCap w s.size 0 e)) e ((bytesRow s (grownCap w s.size 0 e)).size, (bytesRow s (grownCap w s.size 0 e)).size + 1)
          (q.1 (bytesOf s)) (grownCap w s.size 0 e) (by rw [hlen, hbl]; simp only [grownCap, Question.cut]; omega) (fun i x hi j c hj => by
            obtain ⟨n, h1, h2, h3⟩ := hrow i x hi
            rw [h2] at hj
            cases j with
            | succ j => simp at hj
            | zero =>
              simp at hj; subst hj
              have hz : T.sz e = 1 := by rw [← hok.len e x, h2]; rfl
              refine ⟨.int .u8 n, ?_, .int .u8 n⟩
              rw [hz]
              simp only [bytesOf, List.getElem?_map, Option.map_eq_some_iff] at h1
              obtain ⟨y, hy, rfl⟩ := h1
              have hy2 : s.data[i]? = some y := by rw [ByteArray.toList_eq] at hy; simpa using hy
              simp only [bytesRow, Nat.mul_one, Nat.add_zero]
              rw [Array.getElem?_append_left (by simpa using h3)]
              simp [hy2])
        rw [hlen, hbl] at hres
        exact ⟨_, _, _, _, _, _, _, h, .inl (by unfold execOp; rw [ho]; simp only [hv, Sem.run_bind, hrun2, Result.andThen_ok, Sem.run_pure]), hres⟩
      · cases h
    · cases h
  · cases h
end
end
end Go.Proofs.YtgefikclhfjcgaaDoorEv

namespace Go.Proofs.YtgefikclhfjcgaaDoorEv
open Go Go.RowKit
set_option linter.unusedVariables false
set_option linter.unusedSectionVars false
set_option linter.unusedSimpArgs false

section
variable {I : Nat → Type} {P : Program} {T : Ty I} {w w' : World} {E E' : Nat → Nat} {φ : List Nat} {fr fr1 : Fr I} {H : Hp I} {R : Type} {out : R} {K : Kont I R} {o : Oper} {tm : Array Value} {D : Nat → Prop}

theorem fieldOf_some {s f : Nat} {fd : Field} (h : fieldOf P s f = some fd) : ∃ fs, P.underlying s = some (.struct fs) ∧ fs[f]? = some fd := by
  unfold fieldOf at h
  split at h
  · rename_i fs hu; exact ⟨fs, hu, h⟩
  · cases h

theorem run_fieldAt {s f : Nat} {fd : Field} {b off : Nat} (h : fieldOf P s f = some fd) (hn : cellsOf P fd.type ≠ some 0) (hi : ∃ n, cellsOf P fd.type = some n) :
    (Instr.fieldAt s (.pointer (some ⟨b, off, none⟩)) f).run P w = .ok (.pointer (some ⟨b, off + fd.offset, none⟩)) w := by
  obtain ⟨fs, hu, hf⟩ := fieldOf_some h
  obtain ⟨n, hn1⟩ := hi
  obtain ⟨i, hi, hsz⟩ := cellsOf_info hn1
  have hne : i.size ≠ 0 := by intro e; rw [hn1, ← hsz, e] at hn; exact hn rfl
  simp only [Instr.fieldAt, Sem.run_bind, run_underlying hu, Result.andThen_ok, hf, Instr.sureAddr, Sem.run_pure, fieldPlace, sizeOf, typeInfo, run_program, hi, hne, if_false, add_at]

theorem list_cells_len (hok : TyOK P T) {e : Nat} (x : I e) {j : Nat} (h : j < T.sz e) : ∃ c, (T.cells e x)[j]? = some c :=
  ⟨_, List.getElem?_eq_getElem (by rw [hok.len]; exact h)⟩

section
variable {a : Act} (hs : Sim T φ E w fr H a.tmps) (hok : TyOK P T)
include hs

theorem ok_nilCheck1 {x : Operand} (ho : o.op = .nilCheck x) (h : (match ev T fr x with | .y (.one (.ptr i off)) => K (.c (.ptr i off)) fr H | _ => none) = some out) : Sound1 P T K out φ E w fr H a o := by
  have hx := ev_rep hs a.defers x
  split at h
  · rename_i i off e
    rw [e] at hx
    obtain ⟨b, hb, hv'⟩ := rep_ptr hx
    have hv : a.eval x = .pointer (some ⟨b, off, none⟩) := hv'
    refine ⟨.pointer (some ⟨b, off, none⟩), _, _, h, (by intro w' _; unfold execOp; rw [ho]; simp only [hv]; rfl), Res.same hs (x := .c (.ptr i off)) ⟨b, hb, rfl⟩ rfl⟩
  · cases h
theorem ok_nilCheck {x : Operand} (ho : o.op = .nilCheck x) (h : (match ev T fr x with | .y (.one (.ptr i off)) => K (.c (.ptr i off)) fr H | _ => none) = some out) : Sound P T K out φ E w fr H a o := (ok_nilCheck1 hs ho h).sound

theorem ok_fieldAddr1 {s : TypeId} {x : Operand} {f : Nat} (ho : o.op = .fieldAddr s x f)
    (h : (match fieldOf P s f, ev T fr x with
      | some fd, .y (.one (.ptr i off)) => if (cellsOf P fd.type).getD 0 = 0 then none else K (.c (.ptr i (off + fd.offset))) fr H
      | some fd, .ep cs off => if (cellsOf P fd.type).getD 0 = 0 then none else K (.ep cs (off + fd.offset)) fr H
      | some fd, .rp i e j off => if (cellsOf P fd.type).getD 0 = 0 then none else K (.rp i e j (off + fd.offset)) fr H
      | _, _ => none) = some out) : Sound1 P T K out φ E w fr H a o := by
  have hx := ev_rep hs a.defers x
  have hc : ∀ {fd : Field}, (cellsOf P fd.type).getD 0 ≠ 0 → cellsOf P fd.type ≠ some 0 ∧ ∃ n, cellsOf P fd.type = some n := by
    intro fd q
    cases hq : cellsOf P fd.type with
    | none => rw [hq] at q; exact absurd rfl q
    | some n => rw [hq] at q; exact ⟨fun e => q (by rw [e]; rfl), n, rfl⟩
  split at h
  · rename_i fd i off hf e
    rw [e] at hx
    obtain ⟨b, hb, hv'⟩ := rep_ptr hx
    have hv : a.eval x = .pointer (some ⟨b, off, none⟩) := hv'
    split at h
    · cases h
    · rename_i hn
      exact ⟨_, _, _, h, (by intro w' _; unfold execOp; rw [ho]; simp only [hv, Sem.run_bind, run_fieldAt hf (hc hn).1 (hc hn).2, Result.andThen_ok, Sem.run_pure]), Res.same hs (x := .c (.ptr i (off + fd.offset))) ⟨b, hb, rfl⟩ rfl⟩
  · rename_i fd cs off hf e
    rw [e] at hx
    obtain ⟨b, oo, hv', hj⟩ := hx
    have hv : a.eval x = .pointer (some ⟨b, oo + off, none⟩) := hv'
    split at h
    · cases h
    · rename_i hn
      exact ⟨.pointer (some ⟨b, oo + off + fd.offset, none⟩), _, _, h, (by intro w' _; unfold execOp; rw [ho]; simp only [hv, Sem.run_bind, run_fieldAt hf (hc hn).1 (hc hn).2, Result.andThen_ok, Sem.run_pure]), Res.same hs (x := .ep cs (off + fd.offset)) ⟨b, oo, by rw [Nat.add_assoc], hj⟩ rfl⟩
  · rename_i fd i e2 j off hf e
    rw [e] at hx
    obtain ⟨b, n, h1, h2, h3, hv'⟩ := hx
    have hv : a.eval x = .pointer (some ⟨b, j * T.sz e2 + off, none⟩) := hv'
    split at h
    · cases h
    · rename_i hn
      exact ⟨.pointer (some ⟨b, j * T.sz e2 + off + fd.offset, none⟩), _, _, h, (by intro w' _; unfold execOp; rw [ho]; simp only [hv, Sem.run_bind, run_fieldAt hf (hc hn).1 (hc hn).2, Result.andThen_ok, Sem.run_pure]), Res.same hs (x := .rp i e2 j (off + fd.offset)) ⟨b, n, h1, h2, h3, by rw [Nat.add_assoc]⟩ rfl⟩
  · cases h
theorem ok_fieldAddr {s : TypeId} {x : Operand} {f : Nat} (ho : o.op = .fieldAddr s x f)
    (h : (match fieldOf P s f, ev T fr x with
      | some fd, .y (.one (.ptr i off)) => if (cellsOf P fd.type).getD 0 = 0 then none else K (.c (.ptr i (off + fd.offset))) fr H
      | some fd, .ep cs off => if (cellsOf P fd.type).getD 0 = 0 then none else K (.ep cs (off + fd.offset)) fr H
      | some fd, .rp i e j off => if (cellsOf P fd.type).getD 0 = 0 then none else K (.rp i e j (off + fd.offset)) fr H
      | _, _ => none) = some out) : Sound P T K out φ E w fr H a o := (ok_fieldAddr1 hs ho h).sound

omit hs in
theorem mkY_rep {t : TypeId} {v : Value} {cs : List (C I)} {y : Y I} (hr : RepV P T φ w E t v cs) (h : mkY P t (cs.map C.weak) = some y) : RepY T φ w E v y ∧ tokX v (.y y) = none := by
  unfold mkY at h
  split at h
  · rename_i hg
    cases h
    rw [RepV, if_pos hg] at hr
    obtain ⟨arr, rfl, hsz, hj⟩ := hr
    refine ⟨⟨arr, rfl, by simp [hsz], fun j c hc => ?_⟩, rfl⟩
    simp only [List.getElem?_map, Option.map_eq_some_iff] at hc
    obtain ⟨c0, h0, rfl⟩ := hc
    obtain ⟨u, hu, hr⟩ := hj j c0 h0
    exact ⟨u, hu, hr.weak⟩
  · rename_i hg
    rw [RepV, if_neg hg] at hr
    split at h
    · rename_i c hc
      cases h
      cases cs with
      | nil => simp at hc
      | cons c0 cs =>
        cases cs with
        | nil => simp at hc; subst hc; exact ⟨hr c0 rfl, tokC_weak v c0⟩
        | cons c1 cs => simp at hc
    · cases h

theorem ok_field {t : TypeId} {x : Operand} {f : Nat} (ho : o.op = .field t x f)
    (h : (match fieldOf P t f, ev T fr x with
      | some fd, .y (.agg cs) =>
        (match cellsOf P fd.type with
         | some n => (match part cs fd.offset n with
           | some vs => if n = 0 then none else (match P.underlying fd.type, mkY P fd.type (vs.map C.weak) with | some _, some v => K (.y v) fr H | _, _ => none)
           | none => none)
         | none => none)
      | _, _ => none) = some out) : Sound P T K out φ E w fr H a o := by
  have hx := ev_rep hs a.defers x
  split at h
  · rename_i fd cs hf e
    rw [e] at hx
    obtain ⟨arr, hv', hsz, hj⟩ := hx
    have hv : a.eval x = .agg arr := hv'
    split at h
    · rename_i n hn
      split at h
      · rename_i vs hvs
        split at h
        · cases h
        · rename_i hn0
          split at h
          · rename_i d v hu hm
            unfold Go.Proofs.YtgefikclhfjcgaaDoorEv.part at hvs
            split at hvs
            · rename_i hle
              cases hvs
              obtain ⟨u, hr1, hr2⟩ := run_part (P := P) (w := w) (φ := φ) (E := E) (T := T) hu hn (.inr (Nat.pos_of_ne_zero hn0)) hsz hj hle
              obtain ⟨fs, hfs, hfd⟩ := fieldOf_some hf
              obtain ⟨k1, k2⟩ := mkY_rep hr2 hm
              exact ⟨u, _, _, _, _, _, _, h, .inl (by unfold execOp; rw [ho]; simp only [hv, Instr.field, asAgg, Sem.run_bind, run_underlying hfs, hfd, hr1, Result.andThen_ok, Sem.run_pure]), Res.same hs (x := .y v) k1 k2⟩
            · cases hvs
          · cases h
      · cases h
    · cases h
  · cases h

theorem ok_extract1 {t : Operand} {i : Nat} (ho : o.op = .extract t i) (h : (match ev T fr t with | .tup vs => (match vs[i]? with | some v => K (.y v.weak) fr H | none => none) | _ => none) = some out) : Sound1 P T K out φ E w fr H a o := by
  have hx := ev_rep hs a.defers t
  split at h
  · rename_i vs e
    rw [e] at hx
    obtain ⟨arr, hv', hsz, hj⟩ := hx
    have hv : a.eval t = .tuple arr := hv'
    split at h
    · rename_i y hy
      obtain ⟨u, hu, hr⟩ := hj i y hy
      exact ⟨u, _, _, h, (by intro w' _; unfold execOp; rw [ho]; simp only [hv, Instr.extract, Sem.run_bind, hu, Result.andThen_ok, Sem.run_pure]), Res.same hs (x := .y y.weak) hr (tokX_weak u y)⟩
    · cases h
  · cases h
theorem ok_extract {t : Operand} {i : Nat} (ho : o.op = .extract t i) (h : (match ev T fr t with | .tup vs => (match vs[i]? with | some v => K (.y v.weak) fr H | none => none) | _ => none) = some out) : Sound P T K out φ E w fr H a o := (ok_extract1 hs ho h).sound

theorem bt_get (s : ByteArray) (i : Int) (h1 : i.toNat < s.size) : s[i.toNat]? = some (s[i.toNat]'h1) ∧ bt s i = ((s[i.toNat]'h1).toNat : Int) := by
  constructor
  · exact getElem?_pos s i.toNat h1
  · simp [bt, h1]

theorem ok_index {t : TypeId} {x i : Operand} (ho : o.op = .index t x i)
    (h : (match P.underlying t, ev T fr x, ev T fr i with
      | some .string, .y (.one (.str s)), .y (.one (.int _ i)) => if 0 ≤ i then if i < (s.size : Int) then K (.c (.int .u8 (bt s i))) fr H else none else none
      | _, _, _ => none) = some out) : Sound P T K out φ E w fr H a o := by
  have hx := ev_rep hs a.defers x
  have hi := ev_rep hs a.defers i
  split at h
  · rename_i q1 q2 q3 s k n hu e1 e2
    rw [e1] at hx; rw [e2] at hi
    have hvx : a.eval x = .string s := rep_str hx
    have hvi : a.eval i = .int k n := rep_int hi
    split at h
    · rename_i h0
      split at h
      · rename_i h1
        have hlt : n.toNat < s.size := by omega
        obtain ⟨g1, g2⟩ := bt_get hs s n hlt
        rw [g2] at h
        exact ok_one hs (by unfold execOp; rw [ho]; simp only [hvx, hvi, Instr.index, asIntOf, Sem.run_bind, Sem.run_pure, run_underlying hu, Result.andThen_ok, h0, if_true, g1]) h (.int .u8 _)
      · cases h
    · cases h
  · cases h
end
end
end Go.Proofs.YtgefikclhfjcgaaDoorEv

namespace Go.Proofs.YtgefikclhfjcgaaDoorEv
open Go Go.RowKit
set_option linter.unusedVariables false
set_option linter.unusedSectionVars false
set_option linter.unusedSimpArgs false

section
variable {I : Nat → Type} {P : Program} {T : Ty I} {w w' : World} {E E' : Nat → Nat} {φ : List Nat} {fr fr1 : Fr I} {H : Hp I} {R : Type} {out : R} {K : Kont I R} {o : Oper} {tm : Array Value} {D : Nat → Prop}

theorem run_size (hok : TyOK P T) {e : Nat} {n : Nat} (h : cellsOf P e = some n) : (sizeOf e).run P w = .ok (T.sz e) w := by
  obtain ⟨i, hi, hsz⟩ := cellsOf_info h
  simp only [sizeOf, typeInfo, Sem.run_bind, run_program, Result.andThen_ok, hi, Sem.run_pure]
  rw [hok.sz, hi]; rfl

/-- The cells of an element, at their address. -/
theorem elem_rep {e : Nat} {l : List (I e)} {b off : Nat} {val : Nat → Nat → Value} (hok : TyOK P T) (hE : off + l.length * T.sz e ≤ E b)
    (hc : ∀ (i : Nat) x, l[i]? = some x → ∀ (j : Nat) c, (T.cells e x)[j]? = some c → w.cell? ⟨b, off + (i * T.sz e + j), none⟩ = some (val i j) ∧ RepC T w E (val i j) c)
    {i : Nat} {x : I e} (hi : l[i]? = some x) : RepX T φ H w E (.pointer (some ⟨b, off + i * T.sz e + 0, none⟩)) (.ep (T.cells e x) 0) := by
  refine ⟨b, off + i * T.sz e, rfl, fun j c hj => ?_⟩
  obtain ⟨h1, h2⟩ := hc i x hi j c hj
  have := cells_lt hok.len hi hj
  rw [Nat.add_assoc]
  exact ⟨by omega, _, h1, h2⟩

theorem rd_get {α : Type} (d : α) (l : List α) (i : Int) (h : i.toNat < l.length) : l[i.toNat]? = some (rd d l i) := by
  rw [rd, List.getD_eq_getElem?_getD, List.getElem?_eq_getElem h]; rfl

section
variable {a : Act} (hs : Sim T φ E w fr H a.tmps) (hok : TyOK P T)
include hs hok

omit hs hok in
theorem rowOf_some {i e : Nat} {l : List (I e)} (h : rowOf H i e = some l) : H[i]? = some (.row e l) ∧ rowAt H i = some (e, l.length) := by
  unfold rowOf at h
  split at h
  · rename_i e' l' hl
    obtain ⟨rfl, rfl⟩ := castL_eq h
    exact ⟨hl, by unfold rowAt; rw [hl]⟩
  · cases h

omit hs in
theorem run_indexAt_slice {t e : TypeId} {b off len cap : Nat} {k : IntKind} {n : Int} {m : Nat} (hu : P.underlying t = some (.slice e)) (hm : cellsOf P e = some m) (h0 : 0 ≤ n) (h1 : n < (len : Int)) :
    (Instr.indexAt t (.slice (some ⟨b, off, none⟩) len cap) (.int k n)).run P w = .ok (.pointer (some ⟨b, off + n.toNat * T.sz e, none⟩)) w := by
  simp only [Instr.indexAt, asIntOf, Sem.run_bind, Sem.run_pure, run_underlying hu, Result.andThen_ok, h0, h1, and_self, if_true, run_size hok hm, add_at]
omit hs in
theorem run_indexAt_array {t e : TypeId} {b off len : Nat} {k : IntKind} {n : Int} {m : Nat} (hu : P.underlying t = some (.array len e)) (hm : cellsOf P e = some m) (h0 : 0 ≤ n) (h1 : n < (len : Int)) :
    (Instr.indexAt t (.pointer (some ⟨b, off, none⟩)) (.int k n)).run P w = .ok (.pointer (some ⟨b, off + n.toNat * T.sz e, none⟩)) w := by
  simp only [Instr.indexAt, asIntOf, Instr.sureAddr, Sem.run_bind, Sem.run_pure, run_underlying hu, Result.andThen_ok, h0, h1, and_self, if_true, run_size hok hm, add_at]

theorem ok_indexAddr1 {t : TypeId} {x i : Operand} (ho : o.op = .indexAddr t x i) (h : indexAddr P T H t (ev T fr x) (ev T fr i) (fun x => K x fr H) = some out) : Sound1 P T K out φ E w fr H a o := by
  have hx := ev_rep hs a.defers x
  have hi := ev_rep hs a.defers i
  have hrun : ∀ {v : Value}, (∀ w, (Instr.indexAt t (a.eval x) (a.eval i)).run P w = .ok v w) → ∀ w', Reads P o a w w' → (execOp a.eval o).run P w' = .ok (.value v) w' := by
    intro v h2 w' _; unfold execOp; rw [ho]; simp only [Sem.run_bind, h2, Result.andThen_ok, Sem.run_pure]
  unfold indexAddr at h
  split at h
  · rename_i q1 q2 q3 e i1 e' k n hu e1 e2
    rw [e1] at hx; rw [e2] at hi
    obtain ⟨m, h2, hcase⟩ := hx
    have hvi : a.eval i = .int k n := rep_int hi
    split at h
    · rename_i q4 q5 l nn hl hcel
      split at h
      · rename_i h0
        subst h0
        split at h
        · rename_i h3
          split at h
          · rename_i h4
            obtain ⟨hr1, hr2⟩ := rowOf_some hl
            rw [hr2] at h2; cases h2
            rcases hcase with ⟨hz, _⟩ | ⟨b, cap, h1, hv', _⟩
            · rw [hz] at h4; omega
            have hvx : a.eval x = .slice (some ⟨b, 0, none⟩) l.length cap := hv'
            exact ⟨_, _, _, h, (hrun (by intro w; rw [hvx, hvi]; exact run_indexAt_slice hok hu hcel h3 h4)), Res.same hs (x := .rp i1 e n.toNat 0) ⟨b, l.length, h1, hr2, by omega, by rw [Nat.zero_add, Nat.add_zero]⟩ rfl⟩
          · cases h
        · cases h
      · cases h
    · cases h
  · rename_i q1 q2 q3 e c k n hu e1 e2
    rw [e1] at hx; rw [e2] at hi
    have hvi : a.eval i = .int k n := rep_int hi
    split at h
    · rename_i q4 q5 l nn hl hcel
      split at h
      · rename_i h3
        split at h
        · rename_i h4
          have hr := listOf_rep (φ := φ) hx hl
          rcases sl_inv hr with ⟨ad, hv, rfl⟩ | ⟨b, off, cap, val, hv, hE, hcap, hc⟩
          · simp at h4; omega
          · have hvx : a.eval x = .slice (some ⟨b, off, none⟩) l.length cap := hv
            exact ⟨_, _, _, h, (hrun (by intro w; rw [hvx, hvi]; exact run_indexAt_slice hok hu hcel h3 h4)), Res.same hs (elem_rep hok hE hc (rd_get (T.dft e) l n (by omega))) rfl⟩
        · cases h
      · cases h
    · cases h
  · rename_i q1 q2 q3 len e i1 k n hu e1 e2
    rw [e1] at hx; rw [e2] at hi
    obtain ⟨b, hb, hv'⟩ := rep_ptr hx
    have hvx : a.eval x = .pointer (some ⟨b, 0, none⟩) := hv'
    have hvi : a.eval i = .int k n := rep_int hi
    split at h
    · rename_i q4 q5 l nn hl hcel
      split at h
      · rename_i h3
        split at h
        · rename_i h4
          split at h
          · rename_i h5
            obtain ⟨hr1, hr2⟩ := rowOf_some hl
            exact ⟨_, _, _, h, (hrun (by intro w; rw [hvx, hvi]; exact run_indexAt_array hok hu hcel h3 h4)), Res.same hs (x := .rp i1 e n.toNat 0) ⟨b, l.length, hb, hr2, by omega, by rw [Nat.zero_add, Nat.add_zero]⟩ rfl⟩
          · cases h
        · cases h
      · cases h
    · cases h
  · rename_i q1 q2 q3 len e e' l0 k n hu e1 e2
    rw [e1] at hx; rw [e2] at hi
    obtain ⟨b, hv', hr0⟩ := hx
    have hvx : a.eval x = .pointer (some ⟨b, 0, none⟩) := hv'
    have hvi : a.eval i = .int k n := rep_int hi
    split at h
    · rename_i q4 q5 l nn hl hcel
      split at h
      · rename_i h3
        split at h
        · rename_i h4
          split at h
          · rename_i h5
            obtain ⟨he0, hl0⟩ := castL_eq hl
            subst he0
            obtain rfl : l = l0 := hl0
            rcases sl_inv hr0 with ⟨ad, hv, hnil⟩ | ⟨b', off', cap, val, hv, hE, hcap, hc⟩
            · rw [hnil] at h5; simp at h5; omega
            · cases hv
              exact ⟨_, _, _, h, (hrun (by intro w; rw [hvx, hvi]; exact run_indexAt_array hok hu hcel h3 h4)), Res.same hs (elem_rep hok hE hc (rd_get (T.dft _) l n (by omega))) rfl⟩
          · cases h
        · cases h
      · cases h
    · cases h
  · cases h
theorem ok_indexAddr {t : TypeId} {x i : Operand} (ho : o.op = .indexAddr t x i) (h : indexAddr P T H t (ev T fr x) (ev T fr i) (fun x => K x fr H) = some out) : Sound P T K out φ E w fr H a o := (ok_indexAddr1 hs hok ho h).sound

omit hs hok in
theorem bound_some {x : Option (X I)} {lo hi d : Int} {K : Int → Option R} (h : bound x lo hi d K = some out) : (x = none ∧ K d = some out) ∨ ∃ k n, x = some (.c (.int k n)) ∧ lo ≤ n ∧ n ≤ hi ∧ K n = some out := by
  unfold bound at h
  split at h
  · exact .inl ⟨rfl, h⟩
  · rename_i k n
    split at h
    · rename_i h1
      split at h
      · rename_i h2; exact .inr ⟨k, n, rfl, h1, h2, h⟩
      · cases h
    · cases h
  · cases h

omit hok in
/-- The bounds of a piece, as the machine works them out. -/
theorem run_bounds {isSlice : Bool} {len cap : Nat} {lo hi : Option Operand} {K : Int → Int → Option R} (hlc : len ≤ cap)
    (h : bound (hi.map (ev T fr)) 0 (len : Int) (len : Int) (fun h => bound (lo.map (ev T fr)) 0 h 0 fun l => K l h) = some out) :
    ∃ l h' : Nat, l ≤ h' ∧ h' ≤ len ∧ K (l : Int) (h' : Int) = some out ∧ (Instr.sliceBounds isSlice len cap (lo.map a.eval) (hi.map a.eval) none).run P w = .ok (l, h', cap) w := by
  have evi : ∀ {x : Operand} {k : IntKind} {n : Int}, ev T fr x = .c (.int k n) → a.eval x = .int k n := by
    intro x k n e
    have := ev_rep hs a.defers x
    rw [e] at this
    exact rep_int this
  have hb : ∀ {k : IntKind} {n : Int} {y : Nat} {code : BoundsCode}, 0 ≤ n → n ≤ (y : Int) → (Instr.sliceBound (.int k n) y code).run P w = .ok n.toNat w := fun h0 h1 => run_sliceBound w _ _ _ _ h0 h1
  rcases bound_some h with ⟨e1, h1⟩ | ⟨k, n, e1, n0, n1, h1⟩
  · have hn : hi = none := by simpa using e1
    subst hn
    rcases bound_some h1 with ⟨e2, h2⟩ | ⟨k2, n2, e2, m0, m1, h2⟩
    · have hn2 : lo = none := by simpa using e2
      subst hn2
      exact ⟨0, len, Nat.zero_le _, Nat.le_refl _, h2, by simp only [Instr.sliceBounds, Option.map_none, Sem.run_bind, Sem.run_pure, Result.andThen_ok]⟩
    · simp only [Option.map_eq_some_iff] at e2
      obtain ⟨y, rfl, e2⟩ := e2
      have hv := evi e2
      refine ⟨n2.toNat, len, by omega, Nat.le_refl _, by rw [Int.toNat_of_nonneg m0]; exact h2, ?_⟩
      simp only [Instr.sliceBounds, Option.map_none, Option.map_some, Sem.run_bind, Sem.run_pure, Result.andThen_ok, hv, hb m0 m1]
  · simp only [Option.map_eq_some_iff] at e1
    obtain ⟨x, rfl, e1⟩ := e1
    have hvh := evi e1
    have hcap : n ≤ (cap : Int) := by omega
    rcases bound_some h1 with ⟨e2, h2⟩ | ⟨k2, n2, e2, m0, m1, h2⟩
    · have hn2 : lo = none := by simpa using e2
      subst hn2
      refine ⟨0, n.toNat, Nat.zero_le _, by omega, by rw [Int.toNat_of_nonneg n0]; exact h2, ?_⟩
      simp only [Instr.sliceBounds, Option.map_none, Option.map_some, Sem.run_bind, Sem.run_pure, Result.andThen_ok, hvh, hb n0 hcap]
    · simp only [Option.map_eq_some_iff] at e2
      obtain ⟨y, rfl, e2⟩ := e2
      have hv := evi e2
      have m1' : n2 ≤ (n.toNat : Int) := by omega
      refine ⟨n2.toNat, n.toNat, by omega, by omega, by rw [Int.toNat_of_nonneg n0, Int.toNat_of_nonneg m0]; exact h2, ?_⟩
      simp only [Instr.sliceBounds, Option.map_none, Option.map_some, Sem.run_bind, Sem.run_pure, Result.andThen_ok, hvh, hv, hb n0 hcap, hb m0 m1']

theorem ok_slice {t : TypeId} {x : Operand} {lo hi mx : Option Operand} (ho : o.op = .slice t x lo hi mx)
    (h : sliceOp P H t (ev T fr x) (lo.map (ev T fr)) (hi.map (ev T fr)) (mx.map (ev T fr)) (fun x => K x fr H) = some out) : Sound P T K out φ E w fr H a o := by
  have hx := ev_rep hs a.defers x
  have hrun : ∀ {v : Value}, (Instr.sliceAt t (a.eval x) (lo.map a.eval) (hi.map a.eval) (mx.map a.eval)).run P w = .ok v w → (execOp a.eval o).run P w = .ok (.value v) w := by
    intro v h2; unfold execOp; rw [ho]; simp only [Sem.run_bind, h2, Result.andThen_ok, Sem.run_pure]
  unfold sliceOp at h
  split at h
  · rename_i q1 q2 q3 s hu e1 e2
    have hm : mx = none := by simpa using e2
    subst hm
    rw [e1] at hx
    have hvx : a.eval x = .string s := rep_str hx
    obtain ⟨l, h', h1, h2, h3, h4⟩ := run_bounds (isSlice := false) (P := P) (w := w) hs (Nat.le_refl s.size) h
    refine ok_one hs (hrun ?_) h3 (.str _)
    rw [hvx, run_sliceAt_string w t _ _ _ _ hu]
    simp only [Instr.slice, Sem.run_bind, run_underlying hu, Result.andThen_ok, Option.map_none, Option.isSome_none, Bool.false_eq_true, if_false, h4, Sem.run_pure, Int.toNat_natCast]
  · rename_i q1 q2 q3 e c hu e1 e2
    have hm : mx = none := by simpa using e2
    subst hm
    rw [e1] at hx
    split at h
    · rename_i xs hxs
      cases hcel : cellsOf P e with
      | none => simp [hcel] at hxs
      | some nn =>
        simp only [hcel, Option.bind_some] at hxs
        have hr := listOf_rep (φ := φ) hx hxs
        obtain ⟨ad, cap, hv, hnil⟩ := sl_len hr
        have hvx : a.eval x = .slice ad xs.length cap := hv
        have hlc : xs.length ≤ cap := by
          rcases sl_inv hr with ⟨ad', q, rfl⟩ | ⟨b, off, cap', val, q, _, hcap, _⟩
          · exact Nat.zero_le _
          · rw [hv] at q; cases q; exact hcap
        obtain ⟨l, h', h1, h2, h3, h4⟩ := run_bounds (isSlice := true) (P := P) (w := w) hs hlc h
        have hsl : P.underlying t = some (.slice (P.elem t)) := by rw [hu]; simp [Program.elem, hu]
        have hrun2 : (Instr.sliceAt t (.slice ad xs.length cap) (lo.map a.eval) (hi.map a.eval) none).run P w = .ok (.slice (if cap = l then ad else ad.map (·.add (l * T.sz e))) (h' - l) (cap - l)) w := by
          rw [run_sliceAt_slice w t _ _ _ _ hsl]
          simp only [Instr.slice, Sem.run_bind, run_underlying hu, Result.andThen_ok, h4, run_size hok hcel, Sem.run_pure]
        refine ok_one hs (hrun (by rw [hvx]; exact hrun2)) h3 ?_
        have hll : (slc xs (l : Int) (h' : Int)).length = h' - l := by simp [slc]; omega
        have hget : ∀ (i : Nat) y, (slc xs (l : Int) (h' : Int))[i]? = some y → xs[l + i]? = some y := by
          intro i y hy
          simp only [slc, Int.toNat_natCast, List.getElem?_drop, List.getElem?_take] at hy
          split at hy
          · exact hy
          · cases hy
        rcases sl_inv hr with ⟨ad', q, rfl⟩ | ⟨b, off, cap', val, q, hE, hcap, hc⟩
        · rw [hv] at q; cases q
          have : l = 0 ∧ h' = 0 := by simp at h2; omega
          obtain ⟨rfl, rfl⟩ := this
          exact .nilsl e _
        · rw [hv] at q; cases q
          have hmul : l * T.sz e + (h' - l) * T.sz e ≤ xs.length * T.sz e := by rw [← Nat.add_mul]; exact Nat.mul_le_mul_right _ (by omega)
          by_cases hcl : cap = l
          · rw [if_pos hcl]
            have h0 : h' - l = 0 := by omega
            have hnil2 : slc xs (l : Int) (h' : Int) = [] := List.length_eq_zero_iff.1 (by rw [hll]; exact h0)
            rw [hnil2, h0]
            exact .sl e [] b off (cap - l) val (by simp; omega) (by simp) (fun i x hi => by simp at hi) (fun i x hi => by simp at hi)
          · rw [if_neg hcl]
            have := RepC.sl (T := T) (w := w) (E := E) e (slc xs (l : Int) (h' : Int)) b (off + l * T.sz e) (cap - l) (fun i j => val (l + i) j) (by rw [hll]; omega) (by rw [hll]; omega)
              (fun i y hi j c hj => by
                have := (hc (l + i) y (hget i y hi) j c hj).1
                rw [← this, Nat.add_mul]; congr 2; omega)
              (fun i y hi j c hj => (hc (l + i) y (hget i y hi) j c hj).2)
            rw [hll] at this
            simpa only [Option.map_some, add_at] using this
    · cases h
  · cases h
end
end
end Go.Proofs.YtgefikclhfjcgaaDoorEv

namespace Go.Proofs.YtgefikclhfjcgaaDoorEv
open Go Go.RowKit
set_option linter.unusedVariables false
set_option linter.unusedSectionVars false
set_option linter.unusedSimpArgs false

section
variable {I : Nat → Type} {P : Program} {T : Ty I} {w w' : World} {E E' : Nat → Nat} {φ : List Nat} {fr fr1 : Fr I} {H : Hp I} {R : Type} {out : R} {K : Kont I R} {o : Oper} {tm : Array Value} {D : Nat → Prop}

theorem run_len {t u : TypeId} {at_ : Array TypeId} {v z : Value} {args : Array Value} (ha : at_[0]? = some t) (hx : args[0]? = some v)
    (hd : (P.underlying t = some .string ∧ ∃ s, v = .string s ∧ z = goInt s.size) ∨ (∃ n e, P.underlying t = some (.array n e) ∧ z = goInt n) ∨ (∃ e a n c, P.underlying t = some (.slice e) ∧ v = .slice a n c ∧ z = goInt n)) :
    (Builtin.len_ at_ u args).run P w = .ok z w := by
  rcases hd with ⟨hu, s, rfl, rfl⟩ | ⟨n, e, hu, rfl⟩ | ⟨e, a, n, c, hu, rfl, rfl⟩ <;>
    simp only [Builtin.len_, ha, hx, Sem.run_bind, run_underlying hu, Result.andThen_ok, Sem.run_pure]

/-- A built-in function's run. -/
theorem run_call_builtin {b : Builtin} {args : Array Operand} {ts : Array TypeId} {ρ : Operand → Value} {v : Value} (ho : o.op = .call { callee := .builtin b, args := args, argTypes := ts })
    (h : (Go.builtin b ts o.type (args.map fun | .const _ => true | _ => false) (args.map ρ)).run P w = .ok (.value v) w') : (execOp ρ o).run P w = .ok (.value v) w' := by
  unfold execOp; rw [ho]
  simp only [Sem.run_bind, resolve, Sem.run_pure, Result.andThen_ok, invoke]
  exact h

section
variable {a : Act} (hs : Sim T φ E w fr H a.tmps) (hok : TyOK P T)
include hs hok

theorem ok_len {args : Array Operand} {ts : Array TypeId} {x : Operand} {t : TypeId} (ho : o.op = .call { callee := .builtin .len, args := args, argTypes := ts }) (ha : args.toList = [x]) (ht : ts.toList = [t])
    (h : lenAt P H t (ev T fr x) (fun x => K x fr H) = some out) : Sound P T K out φ E w fr H a o := by
  have hx := ev_rep hs a.defers x
  have ha' : args = #[x] := Array.toList_inj.1 (by simpa using ha)
  have ht' : ts = #[t] := Array.toList_inj.1 (by simpa using ht)
  subst ha'; subst ht'
  have hrun : ∀ {z : Value}, ((P.underlying t = some .string ∧ ∃ s, a.eval x = .string s ∧ z = goInt s.size) ∨ (∃ n e, P.underlying t = some (.array n e) ∧ z = goInt n) ∨ (∃ e b n c, P.underlying t = some (.slice e) ∧ a.eval x = .slice b n c ∧ z = goInt n)) → (execOp a.eval o).run P w = .ok (.value z) w := by
    intro z hd
    refine run_call_builtin ho ?_
    simp only [Go.builtin, Sem.run_bind]
    rw [run_len (t := t) (v := a.eval x) (z := z) rfl (by simp) hd]
    simp only [Result.andThen_ok, Sem.run_pure]
  unfold lenAt at h
  split at h
  · rename_i q1 q2 s hu e1
    rw [e1] at hx
    exact ok_one hs (hrun (.inl ⟨hu, s, rep_str hx, rfl⟩)) h (.int .i64 _)
  · rename_i q1 q2 n e hu
    exact ok_one hs (hrun (.inr (.inl ⟨n, e, hu, rfl⟩))) h (.int .i64 _)
  · rename_i q1 q2 e i e' hu e1
    rw [e1] at hx
    split at h
    · rename_i l hl
      obtain ⟨m, h2, hcase⟩ := hx
      obtain ⟨hr1, hr2⟩ := rowOf_some hl
      rw [hr2] at h2; cases h2
      rcases hcase with ⟨hz, ad, hv⟩ | ⟨b, cap, h1, hv, _⟩
      · exact ok_one hs (hrun (.inr (.inr ⟨e, ad, _, 0, hu, by rw [hz]; exact hv, rfl⟩))) h (.int .i64 _)
      · exact ok_one hs (hrun (.inr (.inr ⟨e, _, _, _, hu, hv, rfl⟩))) h (.int .i64 _)
    · cases h
  · rename_i q1 q2 e c hu e1
    rw [e1] at hx
    split at h
    · rename_i l hl
      obtain ⟨ad, cap, hv, _⟩ := sl_len (listOf_rep (φ := φ) hx hl)
      exact ok_one hs (hrun (.inr (.inr ⟨e, ad, _, cap, hu, hv, rfl⟩))) h (.int .i64 _)
    · cases h
  · rename_i q1 q2 k e i hu e1
    rw [e1] at hx
    split at h
    · rename_i kd k' e' l hl
      obtain ⟨b, hb, hv'⟩ := hx
      have hv : a.eval x = .map (some b) := hv'
      obtain ⟨es, clock, h1, h2, _⟩ := hs.objs i b _ hb hl
      refine ok_one hs (v := goInt l.length) (run_call_builtin ho ?_) h (.int .i64 _)
      have hr : (Builtin.len_ #[t] o.type #[a.eval x]).run P w = .ok (goInt l.length) w := by
        rw [hv, ← h2]
        simp [Builtin.len_, run_underlying hu, MapKept.run_getObj_map h1, Result.andThen]
      simp only [Go.builtin, Sem.run_bind]
      rw [show (#[x].map a.eval) = #[a.eval x] by simp, hr]
      simp only [Result.andThen_ok, Sem.run_pure]
    · cases h
  · cases h

omit hok in
theorem ok_makeFunc {f : Nat} {first cs : Array Operand} (ho : o.op = .makeFunc (.func f) first cs)
    (h : (if first.isEmpty then
      (match cs.toList.mapM (fun x => capOf (ev T fr x)) with
       | some caps => K (.fn f caps) fr H
       | none => none)
      else none) = some out) : Sound P T K out φ E w fr H a o := by
  split at h
  · rename_i he
    split at h
    · rename_i caps hc
      obtain ⟨hl, hj⟩ := mapM_get _ _ _ hc
      have hfe : first = #[] := by simpa using he
      subst hfe
      refine ⟨.func (.func f) #[] (cs.map a.eval), _, _, _, _, _, _, h, .inl (by unfold execOp; rw [ho]; simp [Instr.makeFunc]), Res.same hs (x := .fn f caps) ⟨_, rfl, by simp [hl], fun j c hc => ?_⟩ rfl⟩
      obtain ⟨x, hx, hx2⟩ := hj j c hc
      have hr := ev_rep hs a.defers x
      unfold capOf at hx2
      split at hx2
      · rename_i c0 e
        cases hx2
        rw [e] at hr
        exact ⟨a.eval x, by simpa using ⟨x, by simpa using hx, rfl⟩, (RepT.weak hr).weak⟩
      · cases hx2
    · cases h
  · cases h

/-! Loads. -/
omit hs hok in
theorem part_some {cs : List (C I)} {off n : Nat} {vs : List (C I)} (h : part cs off n = some vs) : off + n ≤ cs.length ∧ vs = (cs.drop off).take n ∧ ∀ (j : Nat) c, vs[j]? = some c → j < n ∧ cs[off + j]? = some c := by
  unfold part at h
  split at h
  · rename_i hle
    cases h
    refine ⟨hle, rfl, fun j c hc => ?_⟩
    rw [List.getElem?_take] at hc
    split at hc
    · rename_i hj; rw [List.getElem?_drop] at hc; exact ⟨hj, hc⟩
    · cases hc
  · cases h

omit hs hok in
theorem loadVar_run {t : TypeId} {d : TypeDesc} {n b off : Nat} {u : Nat → Value} (hu : P.underlying t = some d) (hn : cellsOf P t = some n) (hcell : ∀ j, j < n → w.cell? ⟨b, off + j, none⟩ = some (u j)) (h0 : aggT P t = true ∨ 0 < n) :
    (loadVar t ⟨b, off, none⟩).run P w = .ok (if aggT P t then .agg ((List.range n).map u).toArray else u 0) w := by
  obtain ⟨i, hi, hsz⟩ := cellsOf_info hn
  simp only [loadVar, Sem.run_bind, run_isAgg hu, Result.andThen_ok]
  by_cases hg : aggT P t = true
  · simp only [hg, if_true, Sem.run_bind, sizeOf, typeInfo, run_program, Result.andThen_ok, hi, Sem.run_pure, hsz]
    rw [run_loadCells w ⟨b, off, none⟩ n u (fun j hj => by rw [add_at]; exact hcell j hj)]
    rfl
  · simp only [hg, if_false, Bool.false_eq_true, run_load]
    have := hcell 0 (h0.resolve_left hg)
    rw [Nat.add_zero] at this
    rw [this]

omit hs hok in
theorem mk_of_cells {t : TypeId} {n : Nat} {vs : List (C I)} {y : Y I} {u : Nat → Value} (hl : vs.length = n) (hr : ∀ (j : Nat) c, vs[j]? = some c → RepT T φ w E (u j) c) (h : mkY P t vs = some y) :
    RepY T φ w E (if aggT P t then .agg ((List.range n).map u).toArray else u 0) y ∧ (∀ c, y = .one c → aggT P t = false ∧ vs = [c]) ∧ (aggT P t = true ∨ 0 < n) := by
  unfold mkY at h
  split at h
  · rename_i hg
    cases h
    rw [if_pos hg]
    refine ⟨⟨_, rfl, by simp [hl], fun j c hc => ?_⟩, (fun c hc => by cases hc), .inl hg⟩
    have hj : j < n := by rw [← hl]; exact (List.getElem?_eq_some_iff.1 hc).1
    exact ⟨u j, by simp [hj], (hr j c hc).weak⟩
  · rename_i hg
    rw [if_neg hg]
    split at h
    · rename_i c
      cases h
      exact ⟨hr 0 c rfl, (fun c' hc => by cases hc; exact ⟨by simpa using hg, rfl⟩), .inr (by rw [← hl]; simp)⟩
    · cases h

omit hs hok in
theorem mkY_weak_tok {t : TypeId} {vs : List (C I)} {y : Y I} {v : Value} (h : mkY P t (vs.map C.weak) = some y) : tokX v (.y y) = none := by
  unfold mkY at h
  split at h
  · cases h; rfl
  · split at h
    · rename_i c hc
      cases h
      cases vs with
      | nil => simp at hc
      | cons c0 vs => simp at hc; obtain ⟨rfl, _⟩ := hc; exact tokC_weak v c0
    · cases h
end
end
end Go.Proofs.YtgefikclhfjcgaaDoorEv

namespace Go.Proofs.YtgefikclhfjcgaaDoorEv
open Go Go.RowKit
set_option linter.unusedVariables false
set_option linter.unusedSectionVars false
set_option linter.unusedSimpArgs false

section
variable {I : Nat → Type} {P : Program} {T : Ty I} {w w' : World} {E E' : Nat → Nat} {φ : List Nat} {fr fr1 : Fr I} {H : Hp I} {R : Type} {out : R} {K : Kont I R} {o : Oper} {tm : Array Value} {D : Nat → Prop}

theorem rowAt_var {i : Nat} {cs cs' : List (C I)} (hH : H[i]? = some (.var cs)) {o : Nat} {r : Nat × Nat} (h : rowAt H o = some r) : rowAt (H.set i (.var cs')) o = some r := by
  unfold rowAt at h ⊢
  by_cases e : i = o
  · subst e; rw [hH] at h; cases h
  · rw [List.getElem?_set_ne e]; exact h

/-- A variable whose cells lose rights. -/
theorem Sim.weakVar (hok : TyOK P T) (h : Sim T φ E w fr H tm) {i : Nat} {cs cs' : List (C I)} (hH : H[i]? = some (.var cs)) (hl : cs'.length = cs.length)
    (hc : ∀ (j : Nat) c, cs'[j]? = some c → cs[j]? = some c ∨ ∃ c0, cs[j]? = some c0 ∧ c = c0.weak) :
    Sim T φ E w fr (H.set i (.var cs')) tm ∧ ∀ k b, tokOf φ (H.set i (.var cs')) w fr tm k = some b → tokOf φ H w fr tm k = some b ∧ ∀ j c, k = .cell i j → cs'[j]? = some c → cs[j]? = some c := by
  have hil := (List.getElem?_eq_some_iff.1 hH).1
  have key : ∀ k b, tokOf φ (H.set i (.var cs')) w fr tm k = some b → tokOf φ H w fr tm k = some b ∧ ∀ j c, k = .cell i j → cs'[j]? = some c → cs[j]? = some c := by
    intro k b hb
    cases k with
    | slot t => exact ⟨hb, fun j c e => by cases e⟩
    | cell o j =>
      by_cases e : o = i
      · subst e
        simp only [tokOf, List.getElem?_set_self hil] at hb
        cases hφ : φ[o]? with
        | none => simp [hφ] at hb
        | some bb =>
          simp only [hφ] at hb
          cases hj : cs'[j]? with
          | none => simp [hj] at hb
          | some c =>
            cases hu : w.cell? ⟨bb, j, none⟩ with
            | none => simp [hj, hu] at hb
            | some u =>
              simp only [hj, hu] at hb
              rcases hc j c hj with q | ⟨c0, q, rfl⟩
              · exact ⟨by simp only [tokOf, hφ, hH, q, hu]; exact hb, fun j' c' e' hc' => by cases e'; rw [hj] at hc'; cases hc'; exact q⟩
              · rw [tokC_weak] at hb; cases hb
      · refine ⟨?_, fun j' c e' => by cases e'; exact absurd rfl e⟩
        simp only [tokOf] at hb ⊢
        rw [List.getElem?_set_ne (fun q => e q.symm)] at hb
        exact hb
  have hlv : ∀ o, live (H.set i (.var cs')) o → live H o := fun o q => by
    by_cases eo : o = i
    · subst eo; exact live_var hH
    · exact live_ne eo q
  refine ⟨{ len := by simp [h.len], objs := ?_, slots := ?_, flen := h.flen, inj := fun o o' b h1 h2 l1 l2 => h.inj o o' b h1 h2 (hlv _ l1) (hlv _ l2), zero := fun o b q => ⟨fun z => (h.zero o b q).1 (hlv _ z), (h.zero o b q).2⟩, fresh := h.fresh, glob := h.glob
            tinj := fun i j b hi hj => h.tinj i j b (key i b hi).1 (key j b hj).1, tobj := fun i b o hi lv => h.tobj i b o (key i b hi).1 (hlv _ lv), tlt := fun i b hi => h.tlt i b (key i b hi).1 }, key⟩
  · intro o b ob h1 h2
    by_cases e : i = o
    · subst e
      rw [List.getElem?_set_self hil] at h2; cases h2
      obtain ⟨arr, ty, a1, a2, a3⟩ := h.objs i b _ h1 hH
      refine ⟨arr, ty, a1, by rw [hl]; exact a2, fun j c hj => ?_⟩
      rcases hc j c hj with q | ⟨c0, q, rfl⟩
      · exact a3 j c q
      · obtain ⟨u, hu, hr⟩ := a3 j c0 q; exact ⟨u, hu, hr.weak⟩
    · rw [List.getElem?_set_ne e] at h2
      exact h.objs o b ob h1 h2
  · intro t
    have hch := Ch.refl w E h.fresh (fun _ => False)
    exact (h.slots t).ch hok.len hch (fun _ _ q => q) (fun o r q => rowAt_var hH q) (fun _ _ q => q) (fun b hb => h.tlt (.slot t) b hb)

/-- The cells that a load reads, as the memory holds them. -/
theorem var_cells (h : Sim T φ E w fr H tm) {i b : Nat} {cs : List (C I)} (hφ : φ[i]? = some b) (hH : H[i]? = some (.var cs)) : ∀ (j : Nat) c, cs[j]? = some c → ∃ u, w.cell? ⟨b, j, none⟩ = some u ∧ RepT T φ w E u c := by
  obtain ⟨arr, ty, a1, a2, a3⟩ := h.objs i b _ hφ hH
  intro j c hj
  obtain ⟨u, hu, hr⟩ := a3 j c hj
  exact ⟨u, by simp [World.cell?, a1, hu], hr⟩

section
variable {a : Act} (hs : Sim T φ E w fr H a.tmps) (hok : TyOK P T)
include hs hok

theorem ok_load1 {t : TypeId} {x : Operand} (ho : o.op = .load t x) (hu : ∃ d, P.underlying t = some d) (hn' : (∃ i off, ev T fr x = .y (.one (.ptr i off))) ∨ ∃ cs off, ev T fr x = .ep cs off) (h : loadAt P T false fr H t (ev T fr x) K = some out) : Sound1 P T K out φ E w fr H a o := by
  obtain ⟨d, hu⟩ := hu
  have hx := ev_rep hs a.defers x
  have hrun : ∀ {b off n : Nat} {u : Nat → Value} {v : Value}, a.eval x = .pointer (some ⟨b, off, none⟩) → cellsOf P t = some n → (aggT P t = true ∨ 0 < n) → (∀ j, j < n → w.cell? ⟨b, off + j, none⟩ = some (u j)) →
      ∀ w', Reads P o a w w' → (execOp a.eval o).run P w' = .ok (.value (if aggT P t then .agg ((List.range n).map u).toArray else u 0)) w' := by
    intro b off n u v h1 hn h0 h2 w' hw
    unfold execOp; rw [ho]
    simp only [h1, Instr.loadAt, Instr.sureAddr, Sem.run_bind, Sem.run_pure, Result.andThen_ok, loadVar_run hu hn (fun j hj => (hw t x b off n ho h1 hn j hj).trans (h2 j hj)) h0]
  unfold loadAt at h
  split at h
  · rename_i q1 q2 n i off hn e1
    rw [e1] at hx
    obtain ⟨b, hb, hv'⟩ := rep_ptr hx
    have hv : a.eval x = .pointer (some ⟨b, off, none⟩) := hv'
    split at h
    · rename_i cs hH
      split at h
      · rename_i vs hvs
        obtain ⟨hle, hvs2, hvj⟩ := part_some hvs
        have hcells := var_cells hs hb hH
        have hex : ∀ j, ∃ u, j < n → w.cell? ⟨b, off + j, none⟩ = some u ∧ ∀ c, vs[j]? = some c → RepT T φ w E u c := by
          intro j
          by_cases hj : j < n
          · obtain ⟨u, h1, h2⟩ := hcells (off + j) cs[off + j] (List.getElem?_eq_getElem (by omega))
            refine ⟨u, fun _ => ⟨h1, fun c hc => ?_⟩⟩
            have := (hvj j c hc).2
            rw [List.getElem?_eq_getElem (by omega)] at this
            cases this; exact h2
          · exact ⟨undef, fun q => absurd q hj⟩
        have hch : ∃ u : Nat → Value, ∀ j, j < n → w.cell? ⟨b, off + j, none⟩ = some (u j) ∧ ∀ c, vs[j]? = some c → RepT T φ w E (u j) c :=
          ⟨fun j => Classical.choose (hex j), fun j hj => Classical.choose_spec (hex j) hj⟩
        obtain ⟨u, hu2⟩ := hch
        have hvl : vs.length = n := by rw [hvs2, List.length_take, List.length_drop]; omega
        split at h
        · rename_i y hy
          simp only [Bool.false_eq_true, if_false] at h hy
          obtain ⟨k1, _, k3⟩ := mk_of_cells (T := T) (φ := φ) (w := w) (E := E) (u := u) (show (vs.map C.weak).length = n by simp [hvl]) (fun j c hc => by
            simp only [List.getElem?_map, Option.map_eq_some_iff] at hc
            obtain ⟨c0, h0, rfl⟩ := hc
            exact ((hu2 j (by rw [← hvl]; exact (List.getElem?_eq_some_iff.1 h0).1)).2 c0 h0).weak) hy
          exact ⟨_, _, _, h, hrun (v := undef) hv hn k3 (fun j hj => (hu2 j hj).1), Res.same hs (x := .y y) k1 (mkY_weak_tok hy)⟩
        · cases h
      · cases h
    · cases h
  · rename_i q1 q2 n cs off hn e1
    rw [e1] at hx
    obtain ⟨b, oo, hv', hj⟩ := hx
    have hv : a.eval x = .pointer (some ⟨b, oo + off, none⟩) := hv'
    split at h
    · rename_i vs hvs
      obtain ⟨hle, hvs2, hvj⟩ := part_some hvs
      have hvl : vs.length = n := by rw [hvs2, List.length_take, List.length_drop]; omega
      have hex : ∀ j, ∃ u, j < n → w.cell? ⟨b, oo + off + j, none⟩ = some u ∧ ∀ c, vs[j]? = some c → RepC T w E u c := by
        intro j
        by_cases hjn : j < n
        · obtain ⟨h0, u, h1, h2⟩ := hj (off + j) cs[off + j] (List.getElem?_eq_getElem (by omega))
          refine ⟨u, fun _ => ⟨by rw [Nat.add_assoc]; exact h1, fun c hc => ?_⟩⟩
          have := (hvj j c hc).2
          rw [List.getElem?_eq_getElem (by omega)] at this
          cases this; exact h2
        · exact ⟨undef, fun q => absurd q hjn⟩
      have hch : ∃ u : Nat → Value, ∀ j, j < n → w.cell? ⟨b, oo + off + j, none⟩ = some (u j) ∧ ∀ c, vs[j]? = some c → RepC T w E (u j) c :=
        ⟨fun j => Classical.choose (hex j), fun j hj => Classical.choose_spec (hex j) hj⟩
      obtain ⟨u, hu2⟩ := hch
      split at h
      · rename_i y hy
        obtain ⟨k1, k2, k3⟩ := mk_of_cells (T := T) (φ := φ) (w := w) (E := E) (u := u) hvl (fun j c hc => ((hu2 j (by rw [← hvl]; exact (List.getElem?_eq_some_iff.1 hc).1)).2 c hc).toT) hy
        refine ⟨_, _, _, h, hrun (v := undef) hv hn k3 (fun j hj => (hu2 j hj).1), Res.same hs (x := .y y) k1 ?_⟩
        cases y with
        | agg cs => rfl
        | one c =>
          obtain ⟨g1, g2⟩ := k2 c rfl
          subst g2
          rw [if_neg (by rw [g1]; simp)]
          exact ((hu2 0 (by rw [← hvl]; simp)).2 c rfl).tok
      · cases h
    · cases h
  · rename_i q1 q2 n i e j off hn e1
    rw [e1] at hn'
    rcases hn' with ⟨_, _, q⟩ | ⟨_, _, q⟩ <;> cases q
  · cases h

theorem ok_load {tk : Bool} {t : TypeId} {x : Operand} (ho : o.op = .load t x) (hu : ∃ d, P.underlying t = some d) (h : loadAt P T tk fr H t (ev T fr x) K = some out) : Sound P T K out φ E w fr H a o := by
  obtain ⟨d, hu⟩ := hu
  have hx := ev_rep hs a.defers x
  have hrun : ∀ {b off : Nat} {v : Value}, a.eval x = .pointer (some ⟨b, off, none⟩) → (loadVar t ⟨b, off, none⟩).run P w = .ok v w → (execOp a.eval o).run P w = .ok (.value v) w := by
    intro b off v h1 h2
    unfold execOp; rw [ho]
    simp only [h1, Instr.loadAt, Instr.sureAddr, Sem.run_bind, Sem.run_pure, Result.andThen_ok, h2]
  unfold loadAt at h
  split at h
  · rename_i q1 q2 n i off hn e1
    rw [e1] at hx
    obtain ⟨b, hb, hv'⟩ := rep_ptr hx
    have hv : a.eval x = .pointer (some ⟨b, off, none⟩) := hv'
    split at h
    · rename_i cs hH
      split at h
      · rename_i vs hvs
        obtain ⟨hle, hvs2, hvj⟩ := part_some hvs
        have hcells := var_cells hs hb hH
        have hex : ∀ j, ∃ u, j < n → w.cell? ⟨b, off + j, none⟩ = some u ∧ ∀ c, vs[j]? = some c → RepT T φ w E u c := by
          intro j
          by_cases hj : j < n
          · obtain ⟨u, h1, h2⟩ := hcells (off + j) cs[off + j] (List.getElem?_eq_getElem (by omega))
            refine ⟨u, fun _ => ⟨h1, fun c hc => ?_⟩⟩
            have := (hvj j c hc).2
            rw [List.getElem?_eq_getElem (by omega)] at this
            cases this; exact h2
          · exact ⟨undef, fun q => absurd q hj⟩
        have hch : ∃ u : Nat → Value, ∀ j, j < n → w.cell? ⟨b, off + j, none⟩ = some (u j) ∧ ∀ c, vs[j]? = some c → RepT T φ w E (u j) c :=
          ⟨fun j => Classical.choose (hex j), fun j hj => Classical.choose_spec (hex j) hj⟩
        obtain ⟨u, hu2⟩ := hch
        have hvl : vs.length = n := by rw [hvs2, List.length_take, List.length_drop]; omega
        split at h
        · rename_i y hy
          cases tk with
          | false =>
            simp only [Bool.false_eq_true, if_false] at h hy
            obtain ⟨k1, _, k3⟩ := mk_of_cells (T := T) (φ := φ) (w := w) (E := E) (u := u) (show (vs.map C.weak).length = n by simp [hvl]) (fun j c hc => by
              simp only [List.getElem?_map, Option.map_eq_some_iff] at hc
              obtain ⟨c0, h0, rfl⟩ := hc
              exact ((hu2 j (by rw [← hvl]; exact (List.getElem?_eq_some_iff.1 h0).1)).2 c0 h0).weak) hy
            exact ⟨_, _, _, _, _, _, _, h, .inl (hrun hv (loadVar_run hu hn (fun j hj => (hu2 j hj).1) k3)), Res.same hs (x := .y y) k1 (mkY_weak_tok hy)⟩
          | true =>
            simp only [if_true] at h hy
            obtain ⟨k1, k2, k3⟩ := mk_of_cells (T := T) (φ := φ) (w := w) (E := E) (u := u) hvl (fun j c hc => (hu2 j (by rw [← hvl]; exact (List.getElem?_eq_some_iff.1 hc).1)).2 c hc) hy
            have hlen : (cs.take off ++ vs.map C.weak ++ cs.drop (off + n)).length = cs.length := by simp [hvl]; omega
            have hcs : ∀ (j : Nat) c, (cs.take off ++ vs.map C.weak ++ cs.drop (off + n))[j]? = some c → (cs[j]? = some c ∧ (j < off ∨ off + n ≤ j)) ∨ ∃ c0, cs[j]? = some c0 ∧ c = c0.weak := by
              intro j c hj
              rw [List.append_assoc] at hj
              by_cases h1 : j < off
              · rw [List.getElem?_append_left (by simp; omega), List.getElem?_take, if_pos h1] at hj
                exact .inl ⟨hj, .inl h1⟩
              · rw [List.getElem?_append_right (by simp; omega)] at hj
                have hto : (cs.take off).length = off := by simp; omega
                rw [hto] at hj
                by_cases h2 : j - off < n
                · rw [List.getElem?_append_left (by simp [hvl]; exact h2)] at hj
                  simp only [List.getElem?_map, Option.map_eq_some_iff] at hj
                  obtain ⟨c0, h0, rfl⟩ := hj
                  have := (hvj _ c0 h0).2
                  rw [show off + (j - off) = j by omega] at this
                  exact .inr ⟨c0, this, rfl⟩
                · rw [List.getElem?_append_right (by simp [hvl]; omega), List.getElem?_drop] at hj
                  simp only [List.length_map, hvl] at hj
                  rw [show off + n + (j - off - n) = j by omega] at hj
                  exact .inl ⟨hj, .inr (by omega)⟩
            obtain ⟨s1, s2⟩ := Sim.weakVar hok hs hH hlen (fun j c hj => (hcs j c hj).imp (fun q => q.1) id)
            refine ⟨_, _, φ, E, w, fr, _, h, .inl (hrun hv (loadVar_run hu hn (fun j hj => (hu2 j hj).1) k3)), ?_⟩
            have htok : ∀ b', tokX (if aggT P t then .agg ((List.range n).map u).toArray else u 0) (.y y) = some b' → tokOf φ H w fr a.tmps (.cell i off) = some b' ∧ n = 1 := by
              intro b' q
              cases y with
              | agg cs => cases q
              | one c =>
                obtain ⟨g1, g2⟩ := k2 c rfl
                subst g2
                rw [if_neg (by rw [g1]; simp)] at q
                have hn1 : n = 1 := by rw [← hvl]; rfl
                obtain ⟨_, hc1⟩ := hvj 0 c rfl
                rw [Nat.add_zero] at hc1
                have hc2 := (hu2 0 (by omega)).1
                rw [Nat.add_zero] at hc2
                exact ⟨by simp only [tokOf, hb, hH, hc1, hc2]; exact q, hn1⟩
            refine { sim := s1, rep := ?_, free := ?_, ch := Ch.refl w E hs.fresh _, own := ?_, pre := fun _ _ q => q, rows := fun _ _ q => rowAt_var hH q }
            · exact k1
            · intro b' q
              obtain ⟨g1, g2⟩ := htok b' q
              refine ⟨fun k hk => ?_, fun o' lv => hs.tobj _ b' o' g1 (by
                by_cases eo : o' = i
                · subst eo; exact live_var hH
                · exact live_ne eo lv), hs.tlt _ b' g1⟩
              obtain ⟨m1, m2⟩ := s2 k b' hk
              have := hs.tinj k (.cell i off) b' m1 g1
              subst this
              simp only [tokOf, List.getElem?_set_self (List.getElem?_eq_some_iff.1 hH).1, hb] at hk
              cases hj : (cs.take off ++ vs.map C.weak ++ cs.drop (off + n))[off]? with
              | none => rw [hj] at hk; cases hk
              | some c =>
                rcases hcs off c hj with ⟨_, p⟩ | ⟨c0, _, rfl⟩
                · omega
                · simp only [hj] at hk
                  cases hcell : w.cell? ⟨b, off, none⟩ with
                  | none => simp [hcell] at hk
                  | some uu => simp only [hcell, tokC_weak] at hk; cases hk
            · intro b' q
              rcases q with q | q
              · rcases q with ⟨o', ql, q⟩ | ⟨k, q⟩
                · exact .inl (.inl ⟨o', live_back (live_var hH) ql, q⟩)
                · exact .inl (.inr ⟨k, (s2 k b' q).1⟩)
              · exact .inl (.inr ⟨_, (htok b' q).1⟩)
        · cases h
      · cases h
    · cases h
  · rename_i q1 q2 n cs off hn e1
    rw [e1] at hx
    obtain ⟨b, oo, hv', hj⟩ := hx
    have hv : a.eval x = .pointer (some ⟨b, oo + off, none⟩) := hv'
    split at h
    · rename_i vs hvs
      obtain ⟨hle, hvs2, hvj⟩ := part_some hvs
      have hvl : vs.length = n := by rw [hvs2, List.length_take, List.length_drop]; omega
      have hex : ∀ j, ∃ u, j < n → w.cell? ⟨b, oo + off + j, none⟩ = some u ∧ ∀ c, vs[j]? = some c → RepC T w E u c := by
        intro j
        by_cases hjn : j < n
        · obtain ⟨h0, u, h1, h2⟩ := hj (off + j) cs[off + j] (List.getElem?_eq_getElem (by omega))
          refine ⟨u, fun _ => ⟨by rw [Nat.add_assoc]; exact h1, fun c hc => ?_⟩⟩
          have := (hvj j c hc).2
          rw [List.getElem?_eq_getElem (by omega)] at this
          cases this; exact h2
        · exact ⟨undef, fun q => absurd q hjn⟩
      have hch : ∃ u : Nat → Value, ∀ j, j < n → w.cell? ⟨b, oo + off + j, none⟩ = some (u j) ∧ ∀ c, vs[j]? = some c → RepC T w E (u j) c :=
        ⟨fun j => Classical.choose (hex j), fun j hj => Classical.choose_spec (hex j) hj⟩
      obtain ⟨u, hu2⟩ := hch
      split at h
      · rename_i y hy
        obtain ⟨k1, k2, k3⟩ := mk_of_cells (T := T) (φ := φ) (w := w) (E := E) (u := u) hvl (fun j c hc => ((hu2 j (by rw [← hvl]; exact (List.getElem?_eq_some_iff.1 hc).1)).2 c hc).toT) hy
        refine ⟨_, _, _, _, _, _, _, h, .inl (hrun hv (loadVar_run hu hn (fun j hj => (hu2 j hj).1) k3)), Res.same hs (x := .y y) k1 ?_⟩
        cases y with
        | agg cs => rfl
        | one c =>
          obtain ⟨g1, g2⟩ := k2 c rfl
          subst g2
          rw [if_neg (by rw [g1]; simp)]
          exact ((hu2 0 (by rw [← hvl]; simp)).2 c rfl).tok
      · cases h
    · cases h
  · rename_i q1 q2 n i e j off hn e1
    rw [e1] at hx
    obtain ⟨b, m, hb, hr, hlt, hv'⟩ := hx
    have hv : a.eval x = .pointer (some ⟨b, j * T.sz e + off, none⟩) := hv'
    split at h
    · rename_i l hl
      obtain ⟨hr1, hr2⟩ := rowOf_some hl
      rw [hr2] at hr; cases hr
      obtain ⟨arr, ty, a1, a2, a3⟩ := (hs.objs i b _ hb hr1).resolve_left (fun q => by rw [q] at hlt; cases hlt)
      split at h
      · rename_i vs hvs
        obtain ⟨hle, hvs2, hvj⟩ := part_some hvs
        have hvl : vs.length = n := by rw [hvs2, List.length_take, List.length_drop]; omega
        have hgx : l[j]? = some (l.getD j (T.dft e)) := by rw [List.getD_eq_getElem?_getD, List.getElem?_eq_getElem hlt]; rfl
        have hex : ∀ k, ∃ u, k < n → w.cell? ⟨b, j * T.sz e + off + k, none⟩ = some u ∧ ∀ c, vs[k]? = some c → RepC T w E u c := by
          intro k
          by_cases hkn : k < n
          · have hok2 : off + k < (T.cells e (l.getD j (T.dft e))).length := by omega
            obtain ⟨u, h1, h2⟩ := a3 j _ hgx (off + k) _ (List.getElem?_eq_getElem hok2)
            refine ⟨u, fun _ => ⟨by rw [Nat.add_assoc]; simp [World.cell?, a1, h1], fun c hc => ?_⟩⟩
            have := (hvj k c hc).2
            rw [List.getElem?_eq_getElem hok2] at this
            cases this; exact h2
          · exact ⟨undef, fun q => absurd q hkn⟩
        have hch : ∃ u : Nat → Value, ∀ k, k < n → w.cell? ⟨b, j * T.sz e + off + k, none⟩ = some (u k) ∧ ∀ c, vs[k]? = some c → RepC T w E (u k) c :=
          ⟨fun k => Classical.choose (hex k), fun k hk => Classical.choose_spec (hex k) hk⟩
        obtain ⟨u, hu2⟩ := hch
        split at h
        · rename_i y hy
          obtain ⟨k1, k2, k3⟩ := mk_of_cells (T := T) (φ := φ) (w := w) (E := E) (u := u) hvl (fun j c hc => ((hu2 j (by rw [← hvl]; exact (List.getElem?_eq_some_iff.1 hc).1)).2 c hc).toT) hy
          refine ⟨_, _, _, _, _, _, _, h, .inl (hrun hv (loadVar_run hu hn (fun j hj => (hu2 j hj).1) k3)), Res.same hs (x := .y y) k1 ?_⟩
          cases y with
          | agg cs => rfl
          | one c =>
            obtain ⟨g1, g2⟩ := k2 c rfl
            subst g2
            rw [if_neg (by rw [g1]; simp)]
            exact ((hu2 0 (by rw [← hvl]; simp)).2 c rfl).tok
        · cases h
      · cases h
    · cases h
  · cases h
end
end
end Go.Proofs.YtgefikclhfjcgaaDoorEv

namespace Go.Proofs.YtgefikclhfjcgaaDoorEv
open Go Go.RowKit
set_option linter.unusedVariables false
set_option linter.unusedSectionVars false
set_option linter.unusedSimpArgs false

section
variable {I : Nat → Type} {P : Program} {T : Ty I} {w w' : World} {E E' : Nat → Nat} {φ : List Nat} {fr fr1 : Fr I} {H : Hp I} {R : Type} {out : R} {K : Kont I R} {o : Oper} {tm : Array Value} {D : Nat → Prop}

def setL (arr : Array Value) : Nat → List Value → Array Value
  | _, [] => arr
  | k, u :: us => setL (arr.setIfInBounds k u) (k + 1) us

theorem setL_size : ∀ (us : List Value) (arr : Array Value) (k : Nat), (setL arr k us).size = arr.size
  | [], arr, k => rfl
  | u :: us, arr, k => by rw [setL, setL_size us]; simp

theorem setL_get : ∀ (us : List Value) (arr : Array Value) (k j : Nat), k + us.length ≤ arr.size → (setL arr k us)[j]? = if k ≤ j ∧ j < k + us.length then us[j - k]? else arr[j]?
  | [], arr, k, j, h => by rw [setL, if_neg (fun q => by have h2 : j < k + 0 := q.2; have h3 := q.1; omega)]
  | u :: us, arr, k, j, h => by
    simp only [List.length_cons] at h
    rw [setL, setL_get us _ (k + 1) j (by simp; omega)]
    by_cases h1 : k + 1 ≤ j ∧ j < k + 1 + us.length
    · rw [if_pos h1, if_pos (by simp; omega)]
      obtain ⟨m, rfl⟩ : ∃ m, j = k + 1 + m := ⟨j - (k + 1), by omega⟩
      rw [show k + 1 + m - k = m + 1 by omega, show k + 1 + m - (k + 1) = m by omega]
      rfl
    · rw [if_neg h1, Array.getElem?_setIfInBounds]
      by_cases h2 : k = j
      · subst h2
        rw [if_pos rfl, if_pos (by omega), if_pos (by simp), Nat.sub_self, List.getElem?_cons_zero]
      · rw [if_neg h2, if_neg (by simp; omega)]

theorem SetB.trans {w1 w2 w3 : World} {b : Nat} {arr1 arr2 : Array Value} {ty : TypeId} (h : SetB w1 b arr1 ty w2) (k : SetB w2 b arr2 ty w3) : SetB w1 b arr2 ty w3 :=
  ⟨k.os.trans h.os, k.tape.trans h.tape, k.output.trans h.output, k.size.trans h.size, k.here, fun j hj => (k.other j hj).trans (h.other j hj), fun n q => k.room n ⟨arr1, ty, h.here, h.room n q⟩⟩

theorem storeCells_run (P : Program) (b off : Nat) (ty : TypeId) : ∀ (us : List Value) (i : Nat) (w : World) (arr : Array Value), w.heap[b]? = some (.cells arr ty (0, 0)) → off + i + us.length ≤ arr.size →
    (∀ u ∈ us, u.oneCell' = true) → ∃ w', (storeCells ⟨b, off, none⟩ us i).run P w = .ok () w' ∧ SetB w b (setL arr (off + i) us) ty w'
  | [], i, w, arr, hb, _, _ => ⟨w, rfl, ⟨rfl, rfl, rfl, rfl, hb, fun _ _ => rfl, fun n ⟨a, t, q1, q2⟩ => by rw [hb] at q1; cases q1; exact q2⟩⟩
  | u :: us, i, w, arr, hb, hl, hu => by
    simp only [List.length_cons] at hl
    have hc : w.cell? ⟨b, off + i, none⟩ = arr[off + i]? := by simp [World.cell?, hb]
    have hlt : off + i < arr.size := by omega
    have hfz : w.frozen? ⟨b, off + i, none⟩ = false := by simp [World.frozen?, hb]
    have h1 := run_store P w ⟨b, off + i, none⟩ u .plain (hu u (by simp))
    rw [hc, Array.getElem?_eq_getElem hlt, hfz] at h1
    simp only [Bool.false_eq_true, if_false] at h1
    have hs : SetB w b (arr.setIfInBounds (off + i) u) ty (w.setCell ⟨b, off + i, none⟩ u) := by
      exact ⟨rfl, rfl, rfl, by simp, heap_setCell_same w b (off + i) arr ty u hb, fun k hk => Below.heap_setCell _ _ _ _ hk, fun n ⟨a, t, q1, q2⟩ => by rw [hb] at q1; cases q1; simpa using q2⟩
    obtain ⟨w', h2, h3⟩ := storeCells_run P b off ty us (i + 1) _ (arr.setIfInBounds (off + i) u) hs.here (by simp; omega) (fun v hv => hu v (by simp [hv]))
    refine ⟨w', ?_, ?_⟩
    · simp only [storeCells, Sem.run_bind, add_at, h1, Result.andThen_ok, h2]
    · rw [setL]; exact hs.trans h3

theorem RepC.one {v : Value} {c : C I} (h : RepC T w E v c) : v.oneCell' = true := by cases h <;> first | rfl | assumption
theorem RepT.one {v : Value} {c : C I} (h : RepT T φ w E v c) : v.oneCell' = true := by
  cases c
  case own e l => rcases h with ⟨_, a, rfl⟩ | ⟨b, cap, arr, ty, rfl, _⟩ <;> rfl
  all_goals first | exact RepC.one (T := T) (w := w) (E := E) h | exact RepC.one h.1 | (obtain ⟨b, _, rfl⟩ := h; rfl)

/-- A value's cells. -/
theorem y_cells {v : Value} {x : X I} {vs : List (C I)} (hx : RepX T φ H w E v x) (h : yCells x = some vs) :
    v.cells.size = vs.length ∧ (∀ (j : Nat) c, vs[j]? = some c → ∃ u, v.cells[j]? = some u ∧ RepT T φ w E u c) ∧ (∀ u ∈ v.cells.toList, u.oneCell' = true) ∧
    (∀ (j : Nat) c u k, vs[j]? = some c → v.cells[j]? = some u → tokC u c = some k → j = 0 ∧ vs.length = 1 ∧ tokX v x = some k) := by
  cases x with
  | y y =>
    cases y with
    | one c =>
      cases h
      have hr : RepT T φ w E v c := hx
      have h1 := hr.one
      have hcs : v.cells = #[v] := by cases v <;> first | rfl | cases h1
      rw [hcs]
      refine ⟨rfl, fun j c' hj => ?_, fun u hu => by simp at hu; subst hu; exact h1, fun j c' u k hj hu hk => ?_⟩
      · cases j with
        | zero => simp at hj; subst hj; exact ⟨v, rfl, hr⟩
        | succ j => simp at hj
      · cases j with
        | zero => simp at hj hu; subst hj; subst hu; exact ⟨rfl, rfl, hk⟩
        | succ j => simp at hj
    | agg cs =>
      cases h
      obtain ⟨arr, rfl, hs, hj⟩ := hx
      have hg : ∀ (j : Nat) c, (cs.map C.weak)[j]? = some c → ∃ u, arr[j]? = some u ∧ RepT T φ w E u c := by
        intro j c hc
        simp only [List.getElem?_map, Option.map_eq_some_iff] at hc
        obtain ⟨c0, h0, rfl⟩ := hc
        exact hj j c0 h0
      refine ⟨by simp [Value.cells, hs], hg, fun u hu => ?_, fun j c u k hc hu hk => ?_⟩
      · have hu : u ∈ arr.toList := hu
        obtain ⟨j, hj1, hj2⟩ := List.getElem_of_mem hu
        have hjl : j < (cs.map C.weak).length := by simp at hj1 ⊢; omega
        obtain ⟨u', h1, h2⟩ := hg j _ (List.getElem?_eq_getElem hjl)
        have : arr[j]? = some u := by rw [← Array.getElem?_toList, List.getElem?_eq_getElem hj1, hj2]
        rw [this] at h1; cases h1
        exact h2.one
      · simp only [List.getElem?_map, Option.map_eq_some_iff] at hc
        obtain ⟨c0, h0, rfl⟩ := hc
        rw [tokC_weak] at hk; cases hk
  | _ => cases h

theorem splice_get {cs vs cs' : List (C I)} {off : Nat} (h : splice cs off vs = some cs') : off + vs.length ≤ cs.length ∧ cs'.length = cs.length ∧ ∀ j, cs'[j]? = if off ≤ j ∧ j < off + vs.length then vs[j - off]? else cs[j]? := by
  unfold splice at h
  split at h
  · rename_i hle
    cases h
    refine ⟨hle, by simp; omega, fun j => ?_⟩
    rw [List.append_assoc]
    by_cases h1 : j < off
    · rw [List.getElem?_append_left (by simp; omega), List.getElem?_take, if_pos h1, if_neg (by omega)]
    · rw [List.getElem?_append_right (by simp; omega)]
      have hto : (cs.take off).length = off := by simp; omega
      rw [hto]
      by_cases h2 : j - off < vs.length
      · rw [List.getElem?_append_left h2, if_pos (by omega)]
      · rw [List.getElem?_append_right (by omega), List.getElem?_drop, if_neg (by omega)]
        congr 1; omega
  · cases h

/-- Who holds a right behind a variable has turned. -/
theorem setObj_key (h : Sim T φ E w fr H tm) {i b : Nat} (hφ : φ[i]? = some b) (hlv : live H i) {arr : Array Value} {ty : TypeId} (hs : SetB w b arr ty w') (ob : O I) :
    ∀ q k, tokOf φ (H.set i ob) w' fr tm q = some k → tokOf φ H w fr tm q = some k ∨ ∃ cs j c u, ob = .var cs ∧ q = .cell i j ∧ cs[j]? = some c ∧ arr[j]? = some u ∧ tokC u c = some k := by
  have hil : i < H.length := by rw [← h.len]; exact (List.getElem?_eq_some_iff.1 hφ).1
  intro q k hk
  cases q with
  | slot t => exact .inl hk
  | cell o' j =>
    by_cases e : o' = i
    · subst e
      simp only [tokOf, hφ, List.getElem?_set_self hil] at hk
      cases ob with
      | var cs =>
        simp only at hk
        cases h3 : cs[j]? with
        | none => simp [h3] at hk
        | some c =>
          cases h4 : w'.cell? ⟨b, j, none⟩ with
          | none => simp [h3, h4] at hk
          | some u =>
            simp only [h3, h4] at hk
            have h4' : arr[j]? = some u := by rw [← h4]; simp [World.cell?, hs.here]
            exact .inr ⟨cs, j, c, u, rfl, rfl, h3, h4', hk⟩
      | row e l => simp at hk
      | map a b c d => simp at hk
      | gone => simp at hk
    · refine .inl ?_
      simp only [tokOf] at hk ⊢
      rw [List.getElem?_set_ne (fun q => e q.symm)] at hk
      cases h1 : φ[o']? with
      | none => simp [h1] at hk
      | some b' =>
        simp only [h1] at hk
        cases hH : H[o']? with
        | none => simp [hH] at hk
        | some x =>
          cases x with
          | var cs =>
            have hbb : b' ≠ b := fun q => e (h.inj o' i b (q ▸ h1) hφ (live_var hH) hlv)
            simp only [hH, cell_of_block (hs.other b' hbb)] at hk ⊢
            exact hk
          | row e l => simp [hH] at hk
          | map a b c d => simp [hH] at hk
          | gone => simp [hH] at hk

section
variable {a : Act} (hs : Sim T φ E w fr H a.tmps) (hok : TyOK P T)
include hs hok

omit hs hok in
theorem run_storeAt {t : TypeId} {b off n : Nat} {v : Value} {arr : Array Value} {ty : TypeId} (hn : cellsOf P t = some n) (hsz : v.cells.size = n) (hb : w.heap[b]? = some (.cells arr ty (0, 0))) (hle : off + n ≤ arr.size) (h1 : ∀ u ∈ v.cells.toList, u.oneCell' = true) :
    ∃ w', (Instr.storeAt t (.pointer (some ⟨b, off, none⟩)) v).run P w = .ok () w' ∧ SetB w b (setL arr off v.cells.toList) ty w' := by
  obtain ⟨i, hi, hsi⟩ := cellsOf_info hn
  obtain ⟨w', h2, h3⟩ := storeCells_run P b off ty v.cells.toList 0 w arr hb (by simp [hsz]; omega) h1
  refine ⟨w', ?_, h3⟩
  have hne : ¬ (v.cells.size ≠ i.size) := by rw [hsz, hsi]; simp
  simp only [Instr.storeAt, Instr.sureAddr, storeVar, Sem.run_bind, Sem.run_pure, Result.andThen_ok, sizeOf, typeInfo, run_program, hi, hne, if_false, h2]

omit hs hok in
theorem setL_cells {v : Value} {arr : Array Value} {off n : Nat} (hsz : v.cells.size = n) (hle : off + n ≤ arr.size) (j : Nat) : (setL arr off v.cells.toList)[j]? = if off ≤ j ∧ j < off + n then v.cells[j - off]? else arr[j]? := by
  rw [setL_get _ _ _ _ (by simp [hsz]; omega)]
  simp [hsz]

theorem ok_store {t : TypeId} {x v : Operand} (ho : o.op = .store t x v) (h : storeAt P T (drop fr v) H t (ev T fr x) (ev T fr v) (fun fr H => K .dead fr H) = some out) : Sound P T K out φ E w fr H a o := by
  have hx := ev_rep hs a.defers x
  have hv := ev_rep hs a.defers v
  have h1 := drop_sim hs v
  have hrun : ∀ {w' : World}, (Instr.storeAt t (a.eval x) (a.eval v)).run P w = .ok () w' → Runs P o a w undef w' := by
    intro w' h2
    right
    refine ⟨?_, rfl⟩
    unfold execOp; rw [ho]; simp only [Sem.run_bind, h2, Result.andThen_ok, Sem.run_pure]
  unfold storeAt at h
  split at h
  · rename_i q1 q2 q3 n i off vs hn e1 hvs
    rw [e1] at hx
    obtain ⟨b, hb, hvx'⟩ := rep_ptr hx
    have hvx : a.eval x = .pointer (some ⟨b, off, none⟩) := hvx'
    obtain ⟨y1, y2, y3, y4⟩ := y_cells hv hvs
    split at h
    · rename_i hlen
      split at h
      · rename_i cs hH
        split at h
        · rename_i cs' hcs
          obtain ⟨g1, g2, g3⟩ := splice_get hcs
          obtain ⟨arr, ty, a1, a2, a3⟩ := hs.objs i b _ hb hH
          have hle : off + n ≤ arr.size := by omega
          have hsz : (a.eval v).cells.size = n := by rw [← hlen]; exact y1
          obtain ⟨w', r1, r2⟩ := run_storeAt (P := P) hn hsz a1 hle y3
          have hget := setL_cells (v := a.eval v) (arr := arr) (off := off) hsz hle
          have hE := (hs.zero i b hb).1 (live_var hH)
          have hch := r2.ch hE hs.fresh
          -- a token of a written cell is the operand's
          have hw : ∀ (j : Nat) c u k, cs'[j]? = some c → (setL arr off (a.eval v).cells.toList)[j]? = some u → tokC u c = some k →
              (off ≤ j ∧ j < off + n ∧ n = 1 ∧ tokX (a.eval v) (ev T fr v) = some k) ∨ (tokOf φ H w (drop fr v) a.tmps (.cell i j) = some k ∧ ¬ (off ≤ j ∧ j < off + n)) := by
            intro j c u k hc hu hk
            rw [g3, hlen] at hc
            rw [hget] at hu
            by_cases hj : off ≤ j ∧ j < off + n
            · rw [if_pos hj] at hc hu
              obtain ⟨z1, z2, z3⟩ := y4 (j - off) c u k hc hu hk
              exact .inl ⟨hj.1, hj.2, by omega, z3⟩
            · rw [if_neg hj] at hc hu
              refine .inr ⟨?_, hj⟩
              have hcell : w.cell? ⟨b, j, none⟩ = some u := by simp [World.cell?, a1, hu]
              simp only [tokOf, hb, hH, hc, hcell]; exact hk
          have hfree : ∀ k, tokX (a.eval v) (ev T fr v) = some k → _ := fun k q => drop_free hs a.defers v q
          have hsim := Sim.setObj hok.len h1 hb (live_var hH) _ ty r2 (.var cs') ?_ ?_ ?_
          · refine ⟨undef, .dead, φ, E, w', drop fr v, _, h, hrun (by rw [hvx]; exact r1), { sim := hsim, rep := trivial, free := (fun b q => by cases q), ch := (hch.mono (fun b' _ q => by subst q; exact .inl ⟨i, .inl ⟨_, _, _, ho, .inl ⟨_, e1⟩⟩, live_var hH, hb⟩)), own := ?_, pre := fun _ _ q => q, rows := fun _ _ q => rowAt_var hH q }⟩
            intro b' q
            rcases q with q | q
            · rcases q with ⟨o', ql, q⟩ | ⟨p, q⟩
              · exact .inl (.inl ⟨o', live_back (live_var hH) ql, q⟩)
              · rcases setObj_key h1 hb (live_var hH) r2 _ p b' q with q | ⟨cs2, j, c, u, e, _, z1, z2, z3⟩
                · exact .inl (drop_own v (.inr ⟨p, q⟩))
                · cases e
                  rcases hw j c u b' z1 z2 z3 with ⟨_, _, _, z⟩ | ⟨z, _⟩
                  · exact .inl (.inr (hfree b' z).2.2.2)
                  · exact .inl (drop_own v (.inr ⟨_, z⟩))
            · cases q
          · refine ⟨_, ty, r2.here, by rw [setL_size]; omega, fun j c hc => ?_⟩
            have hc0 := hc
            rw [g3, hlen] at hc
            rw [hget]
            by_cases hj : off ≤ j ∧ j < off + n
            · rw [if_pos hj] at hc ⊢
              obtain ⟨u, hu, hr⟩ := y2 (j - off) c hc
              refine ⟨u, hu, hr.ch hok.len hch (fun _ _ q => q) (fun k hk e => ?_) (fun k hk => ?_)⟩
              · obtain ⟨_, _, z⟩ := y4 _ c u k hc hu hk
                exact (hfree k z).2.1 i (live_var hH) (e ▸ hb)
              · obtain ⟨_, _, z⟩ := y4 _ c u k hc hu hk
                exact (hfree k z).2.2.1
            · rw [if_neg hj] at hc ⊢
              obtain ⟨u, hu, hr⟩ := a3 j c hc
              have hcell : w.cell? ⟨b, j, none⟩ = some u := by simp [World.cell?, a1, hu]
              have htk : ∀ k, tokC u c = some k → tokOf φ H w fr a.tmps (.cell i j) = some k := fun k hk => by simp only [tokOf, hb, hH, hc, hcell]; exact hk
              exact ⟨u, hu, hr.ch hok.len hch (fun _ _ q => q) (fun k hk e => hs.tobj _ k i (htk k hk) (live_var hH) (e ▸ hb)) (fun k hk => hs.tlt _ k (htk k hk))⟩
          · intro r q
            unfold rowAt at q; rw [hH] at q; cases q
          · intro cs2 e j c u hc hu k hk
            cases e
            rcases hw j c u k hc hu hk with ⟨p1, p2, p3, z⟩ | ⟨z, p⟩
            · obtain ⟨f1, f2, f3, _⟩ := hfree k z
              refine ⟨fun q hq => absurd hq (f1 q), f2, f3, fun j' c' u' hc' hu' hk' => ?_⟩
              rcases hw j' c' u' k hc' hu' hk' with ⟨p1', p2', p3', z'⟩ | ⟨z', _⟩
              · omega
              · exact absurd z' (f1 _)
            · refine ⟨fun q hq => ⟨j, h1.tinj q _ k hq z⟩, fun o' => h1.tobj _ k o' z, h1.tlt _ k z, fun j' c' u' hc' hu' hk' => ?_⟩
              rcases hw j' c' u' k hc' hu' hk' with ⟨_, _, _, z'⟩ | ⟨z', _⟩
              · exact absurd z ((hfree k z').1 _)
              · have := h1.tinj _ _ k z' z
                cases this; rfl
        · cases h
      · cases h
    · cases h
  · rename_i q1 q2 q3 n i e j0 off vs hn e1 hvs
    rw [e1] at hx
    obtain ⟨b, m, hb, hr, hlt, hvx'⟩ := hx
    have hvx : a.eval x = .pointer (some ⟨b, j0 * T.sz e + off, none⟩) := hvx'
    obtain ⟨y1, y2, y3, y4⟩ := y_cells hv hvs
    split at h
    · rename_i hlen
      split at h
      · rename_i l hl
        obtain ⟨hr1, hr2⟩ := rowOf_some hl
        rw [hr2] at hr; cases hr
        obtain ⟨arr, ty, a1, a2, a3⟩ := (hs.objs i b _ hb hr1).resolve_left (fun q => by rw [q] at hlt; cases hlt)
        split at h
        · rename_i z hz
          cases hsp : splice (T.cells e (l.getD j0 (T.dft e))) off (vs.map C.weak) with
          | none => rw [hsp] at hz; cases hz
          | some cs' =>
            rw [hsp] at hz
            simp only [Option.bind_some] at hz
            obtain ⟨g1, g2, g3⟩ := splice_get hsp
            simp only [List.length_map, hlen] at g1 g3
            obtain ⟨t1, t2⟩ := hok.of e cs' z hz
            have hszc : (T.cells e (l.getD j0 (T.dft e))).length = T.sz e := hok.len _ _
            have hmul : j0 * T.sz e + T.sz e ≤ l.length * T.sz e := by
              rw [show j0 * T.sz e + T.sz e = (j0 + 1) * T.sz e by rw [Nat.add_mul]; omega]
              exact Nat.mul_le_mul_right _ hlt
            have hle : j0 * T.sz e + off + n ≤ arr.size := by omega
            have hsz : (a.eval v).cells.size = n := by rw [← hlen]; exact y1
            obtain ⟨w', r1, r2⟩ := run_storeAt (P := P) hn hsz a1 hle y3
            have hget := setL_cells (v := a.eval v) (arr := arr) (off := j0 * T.sz e + off) hsz hle
            have hlr : live H i := live_row hr1 (fun q => by rw [q] at hlt; cases hlt)
            have hE := (hs.zero i b hb).1 hlr
            have hch := r2.ch hE hs.fresh
            have hsim := Sim.setObj hok.len h1 hb hlr _ ty r2 (.row e (l.set j0 z)) ?_ ?_ ?_
            · refine ⟨undef, .dead, φ, E, w', drop fr v, _, h, hrun (by rw [hvx]; exact r1), { sim := hsim, rep := trivial, free := (fun b q => by cases q), ch := (hch.mono (fun b' _ q => by subst q; exact .inl ⟨i, .inl ⟨_, _, _, ho, .inr ⟨_, _, _, e1⟩⟩, hlr, hb⟩)), own := ?_, pre := fun _ _ q => q, rows := fun o r q => rowAt_set (fun q' e => by subst e; rw [hr2] at q'; cases q'; unfold rowAt; simp) q }⟩
              intro b' q
              rcases q with q | q
              · rcases q with ⟨o', ql, q⟩ | ⟨p, q⟩
                · exact .inl (.inl ⟨o', live_back hlr ql, q⟩)
                · rcases setObj_key h1 hb hlr r2 _ p b' q with q | ⟨cs2, j, c, u, e, _, z1, z2, z3⟩
                  · exact .inl (drop_own v (.inr ⟨p, q⟩))
                  · cases e
              · cases q
            · refine .inr ⟨_, ty, r2.here, by rw [setL_size, List.length_set]; exact a2, fun i' x' hi' j c hc => ?_⟩
              rw [hget]
              rw [List.getElem?_set] at hi'
              have hcl : j < T.sz e := by rw [← hok.len e x']; exact (List.getElem?_eq_some_iff.1 hc).1
              by_cases hij : j0 = i'
              · subst hij
                rw [if_pos rfl, if_pos hlt] at hi'
                cases hi'
                have hj' : j < cs'.length := by rw [t1]; exact hcl
                obtain ⟨hdat, d, hd1, hd2⟩ := t2 j cs'[j] (List.getElem?_eq_getElem hj')
                rw [hc] at hd1; cases hd1
                have hgc := g3 j
                rw [List.getElem?_eq_getElem hj'] at hgc
                by_cases hjo : off ≤ j ∧ j < off + n
                · rw [if_pos (by omega)]
                  rw [if_pos hjo] at hgc
                  simp only [List.getElem?_map] at hgc
                  obtain ⟨c0, hc0, hc1⟩ := Option.map_eq_some_iff.1 hgc.symm
                  obtain ⟨u, hu, hru⟩ := y2 (j - off) c0 hc0
                  refine ⟨u, by rw [show j0 * T.sz e + j - (j0 * T.sz e + off) = j - off by omega]; exact hu, ?_⟩
                  refine RepC.ch hok.len (hd2 w E u ?_) hch.ext hch.cells
                  rw [← hc1] at hdat ⊢
                  exact hru.weak.toC hdat
                · rw [if_neg (by omega)]
                  rw [if_neg hjo] at hgc
                  have hgx : l[j0]? = some (l.getD j0 (T.dft e)) := by rw [List.getD_eq_getElem?_getD, List.getElem?_eq_getElem hlt]; rfl
                  obtain ⟨u, hu, hru⟩ := a3 j0 _ hgx j _ hgc.symm
                  exact ⟨u, hu, RepC.ch hok.len (hd2 w E u hru) hch.ext hch.cells⟩
              · rw [if_neg hij] at hi'
                obtain ⟨u, hu, hru⟩ := a3 i' x' hi' j c hc
                have : ¬ (j0 * T.sz e + off ≤ i' * T.sz e + j ∧ i' * T.sz e + j < j0 * T.sz e + off + n) := by
                  intro q
                  rcases Nat.lt_or_gt_of_ne hij with p | p
                  · have : (j0 + 1) * T.sz e ≤ i' * T.sz e := Nat.mul_le_mul_right _ p
                    rw [Nat.add_mul] at this; omega
                  · have : (i' + 1) * T.sz e ≤ j0 * T.sz e := Nat.mul_le_mul_right _ p
                    rw [Nat.add_mul] at this; omega
                rw [if_neg this]
                exact ⟨u, hu, RepC.ch hok.len hru hch.ext hch.cells⟩
            · intro r q
              rw [hr2] at q; cases q
              unfold rowAt; simp
            · intro cs2 e2; cases e2
        · cases h
      · cases h
    · cases h
  · cases h
end
end
end Go.Proofs.YtgefikclhfjcgaaDoorEv

namespace Go.Proofs.YtgefikclhfjcgaaDoorEv
open Go Go.RowKit
set_option linter.unusedVariables false
set_option linter.unusedSectionVars false
set_option linter.unusedSimpArgs false

section
variable {I : Nat → Type} {P : Program} {T : Ty I} {w w' : World} {E E' : Nat → Nat} {φ : List Nat} {fr fr1 : Fr I} {H : Hp I} {R : Type} {out : R} {K : Kont I R} {o : Oper} {tm : Array Value} {D S : Nat → Prop}

theorem newObj_key (h : Sim T φ E w fr H tm) (arr : Array Value) (ty : TypeId) (ob : O I) :
    ∀ q k, tokOf (φ ++ [w.heap.size]) (H ++ [ob]) (w.alloc (.cells arr ty)) fr tm q = some k → tokOf φ H w fr tm q = some k ∨
      ∃ cs, ∃ j : Nat, ∃ c u, ob = .var cs ∧ cs[j]? = some c ∧ arr[j]? = some u ∧ tokC u c = some k := by
  intro q k hb
  cases q with
  | slot t => exact .inl hb
  | cell o j =>
    simp only [tokOf] at hb
    cases h1 : (φ ++ [w.heap.size])[o]? with
    | none => simp [h1] at hb
    | some bb =>
      cases h2 : (H ++ [ob])[o]? with
      | none => simp [h1, h2] at hb
      | some ob' =>
        cases ob' with
        | var cs =>
          simp only [h1, h2] at hb
          cases h3 : cs[j]? with
          | none => simp [h3] at hb
          | some c =>
            cases h4 : (w.alloc (.cells arr ty)).cell? ⟨bb, j, none⟩ with
            | none => simp [h3, h4] at hb
            | some u =>
              simp only [h3, h4] at hb
              rcases get_app_inv h1 with k1 | ⟨k1, k1'⟩
              · have ho := (List.getElem?_eq_some_iff.1 k1).1
                rw [h.len] at ho
                rw [List.getElem?_append_left ho] at h2
                refine .inl ?_
                have hc := cell_of_block (Below.heap_alloc w (.cells arr ty) bb (h.zero o bb k1).2) j
                simp only [tokOf, k1, h2, h3, ← hc, h4]; exact hb
              · rcases get_app_inv h2 with k2 | ⟨k2, k2'⟩
                · have := (List.getElem?_eq_some_iff.1 k2).1
                  have := h.len; omega
                · subst k1'
                  have h4' : arr[j]? = some u := by rw [← h4]; simp
                  exact .inr ⟨cs, j, c, u, k2'.symm, h3, h4', hb⟩
        | row e l => simp [h1, h2] at hb
        | map a b c d => simp [h1, h2] at hb
        | gone => simp [h1, h2] at hb

/-- A new variable, and its address. -/
theorem Res.obj (hok : TyOK P T) (hs : Sim T φ E w fr H tm) (h1 : Sim T φ E w fr1 H tm) (ho : ∀ i b, tokOf φ H w fr1 tm i = some b → tokOf φ H w fr tm i = some b) (arr : Array Value) (ty : TypeId) (ob : O I)
    (hob : RepO T (φ ++ [w.heap.size]) (w.alloc (.cells arr ty)) E w.heap.size ob)
    (ht : ∀ cs, ob = .var cs → ∀ (j : Nat) c u, cs[j]? = some c → arr[j]? = some u → ∀ b, tokC u c = some b → (∀ i, tokOf φ H w fr1 tm i ≠ some b) ∧ (∀ o : Nat, live H o → φ[o]? ≠ some b) ∧ b < w.heap.size ∧ Own φ H w fr tm b ∧
      (∀ (j' : Nat) c' u', cs[j']? = some c' → arr[j']? = some u' → tokC u' c' = some b → j' = j)) {v : Value} {x : X I}
    (hv : RepX T (φ ++ [w.heap.size]) (H ++ [ob]) (w.alloc (.cells arr ty)) E v x) (hx : tokX v x = none) :
    Res T S φ E w fr H tm v x (φ ++ [w.heap.size]) E (w.alloc (.cells arr ty)) fr1 (H ++ [ob]) where
  sim := h1.newObj hok.len arr ty ob hob (fun cs e j c u hc hu b hb => by obtain ⟨k1, k2, k3, _, k5⟩ := ht cs e j c u hc hu b hb; exact ⟨k1, k2, k3, k5⟩)
  rep := hv
  free b hb := by rw [hx] at hb; cases hb
  ch := Ch.alloc w E hs.fresh _ _
  own b hb := by
    rcases hb with hb | hb
    · rcases hb with ⟨o, hb⟩ | ⟨q, hb⟩
      · obtain ⟨hl, hb⟩ := hb
        rcases get_app_inv hb with k | ⟨_, k⟩
        · exact .inl (.inl ⟨o, live_app (by rw [← hs.len]; exact (List.getElem?_eq_some_iff.1 k).1) hl, k⟩)
        · exact .inr (by omega)
      · rcases newObj_key h1 arr ty ob q b hb with k | ⟨cs, j, c, u, e, hc, hu, k⟩
        · exact .inl (.inr ⟨q, ho q b k⟩)
        · exact .inl (ht cs e j c u hc hu b k).2.2.2.1
    · rw [hx] at hb; cases hb
  pre o b hb := get_app_some hb
  rows _ _ q := rowAt_app q

theorem ptr_new (φ : List Nat) (b : Nat) (h : φ.length = H.length) : (φ ++ [b])[H.length]? = some b := by
  rw [← h, List.getElem?_append_right (Nat.le_refl _)]; simp

theorem zeroOf_some {t : TypeId} {z : List (C I)} (h : zeroOf P t = some z) : ∃ i v, P.info? t = some i ∧ i.zero = some v ∧ v.cells.toList.mapM cOf = some z := by
  unfold zeroOf at h
  cases hi : P.info? t with
  | none => simp [hi] at h
  | some i =>
    cases hz : i.zero with
    | none => simp [hi, hz] at h
    | some v => simp [hi, hz] at h; exact ⟨i, v, rfl, hz, h⟩

theorem zero_cells {t : TypeId} {z : List (C I)} {v : Value} (h : v.cells.toList.mapM cOf = some z) : v.cells.size = z.length ∧ ∀ (j : Nat) c, z[j]? = some c → ∃ u, v.cells[j]? = some u ∧ RepC T w E u c := by
  obtain ⟨h1, h2⟩ := mapM_get cOf _ _ h
  refine ⟨by simp [h1], fun j c hc => ?_⟩
  obtain ⟨u, hu, hcu⟩ := h2 j c hc
  exact ⟨u, by simpa using hu, cOf_rep hcu⟩

theorem run_zeroValue {t : TypeId} {i : TypeInfo} {v : Value} (hi : P.info? t = some i) (hz : i.zero = some v) : (zeroValue t).run P w = .ok v w := by
  simp only [zeroValue, typeInfo, Sem.run_bind, run_program, Result.andThen_ok, hi, Sem.run_pure, hz]

theorem elems_some (hok : TyOK P T) {e n : Nat} {cs : List (C I)} {l : List (I e)} (h : elems T e n cs = some l) : l.length = n ∧ ∀ (i : Nat) x, l[i]? = some x → i < n ∧ ∀ (j : Nat) c, (T.cells e x)[j]? = some c →
    ∃ c0, cs[i * T.sz e + j]? = some c0 ∧ c0.data = true ∧ ∀ w E v, RepC T w E v c0 → RepC T w E v c := by
  obtain ⟨h1, h2⟩ := mapM_get _ _ _ h
  refine ⟨by simpa using h1, fun i x hi => ?_⟩
  obtain ⟨k, hk, hx⟩ := h2 i x hi
  have hin : i < n := by have := (List.getElem?_eq_some_iff.1 hi).1; simp at h1; omega
  rw [List.getElem?_range hin] at hk; cases hk
  refine ⟨hin, fun j c hc => ?_⟩
  obtain ⟨t1, t2⟩ := hok.of e _ x hx
  have hj : j < T.sz e := by rw [← hok.len e x]; exact (List.getElem?_eq_some_iff.1 hc).1
  have hj' : j < ((cs.drop (i * T.sz e)).take (T.sz e)).length := by rw [t1]; exact hj
  obtain ⟨hd, d, hd1, hd2⟩ := t2 j _ (List.getElem?_eq_getElem hj')
  rw [hc] at hd1; cases hd1
  have := List.getElem?_eq_getElem hj'
  rw [List.getElem?_take, if_pos hj, List.getElem?_drop] at this
  exact ⟨_, this, hd, hd2⟩

/-! ### The parts of a struct -/

def Cells (T : Ty I) (φ : List Nat) (w : World) (E : Nat → Nat) (arr : Array Value) (cs : List (C I)) : Prop :=
  arr.size = cs.length ∧ ∀ (j : Nat) c, cs[j]? = some c → ∃ u, arr[j]? = some u ∧ RepT T φ w E u c ∧ tokC u c = none

theorem putAll_get : ∀ (us : List Value) (k : Nat) (arr : Array Value) (off : Nat), ((us.zipIdx k).foldl (fun cs (c, j) => cs.setIfInBounds (off + j) c) arr) = setL arr (off + k) us
  | [], k, arr, off => rfl
  | u :: us, k, arr, off => by rw [List.zipIdx_cons, List.foldl_cons, putAll_get us (k + 1)]; rfl

theorem fill_run {place : Nat → Option (Nat × Nat)} : ∀ (ps : List (Nat × X I)) (vs : List (Nat × Value)) (cs cs' : List (C I)) (arr : Array Value), fill place cs ps = some cs' → Cells T φ w E arr cs →
    ps.map (·.1) = vs.map (·.1) → (∀ (j : Nat) p v, ps[j]? = some p → vs[j]? = some v → RepX T φ H w E v.2 p.2) → ∃ arr', Instr.fill place arr vs = some arr' ∧ Cells T φ w E arr' cs'
  | [], vs, cs, cs', arr, h, hc, he, _ => by
    cases vs with
    | nil => cases h; exact ⟨arr, rfl, hc⟩
    | cons v vs => cases he
  | (i, x) :: ps, vs, cs, cs', arr, h, hc, he, hr => by
    cases vs with
    | nil => cases he
    | cons v vs =>
      obtain ⟨i', v⟩ := v
      simp only [List.map_cons, List.cons.injEq] at he
      obtain ⟨rfl, he⟩ := he
      simp only [fill] at h
      split at h
      · rename_i q1 q2 off n ys hp hy
        split at h
        · rename_i hn
          cases hsp : splice cs off (ys.map C.weak) with
          | none => rw [hsp] at h; cases h
          | some cs2 =>
            rw [hsp] at h
            simp only [Option.bind_some] at h
            obtain ⟨g1, g2, g3⟩ := splice_get hsp
            simp only [List.length_map, hn] at g1 g3
            obtain ⟨y1, y2, y3, _⟩ := y_cells (hr 0 _ _ rfl rfl) hy
            have hvs : v.cells.size = n := by rw [← hn]; exact y1
            have hle : off + n ≤ arr.size := by rw [hc.1]; exact g1
            have hc2 : Cells T φ w E (setL arr off v.cells.toList) cs2 := by
              refine ⟨by rw [setL_size, hc.1, g2], fun j c hj => ?_⟩
              rw [g3] at hj
              rw [setL_cells hvs hle]
              by_cases hjo : off ≤ j ∧ j < off + n
              · rw [if_pos hjo] at hj ⊢
                simp only [List.getElem?_map] at hj
                obtain ⟨c0, hc0, rfl⟩ := Option.map_eq_some_iff.1 hj
                obtain ⟨u, hu, hru⟩ := y2 _ c0 hc0
                exact ⟨u, hu, hru.weak, tokC_weak u c0⟩
              · rw [if_neg hjo] at hj ⊢
                exact hc.2 j c hj
            obtain ⟨arr', k1, k2⟩ := fill_run ps vs cs2 cs' _ h hc2 he (fun j p v hp hv => hr (j + 1) p v hp hv)
            refine ⟨arr', ?_, k2⟩
            have hcond : ¬ (v.cells.size ≠ n ∨ off + v.cells.size > arr.size) := by rw [hvs]; intro q; rcases q with q | q <;> omega
            simp only [Instr.fill, hp]
            rw [if_neg (by simpa using hcond), ← k1]
            congr 1
            rw [← Array.foldl_toList, Array.toList_zipIdx]
            exact putAll_get v.cells.toList 0 arr off
        · cases h
      · cases h

theorem mapM_run {α β : Type} (f : α → Sem β) (g : α → Option β) (w : World) (hfg : ∀ a b, g a = some b → (f a).run P w = .ok b w) : ∀ (l : List α) (l' : List β), l.mapM g = some l' → (l.mapM f).run P w = .ok l' w
  | [], l', h => by simp at h; subst h; rfl
  | a :: l, l', h => by
    rw [List.mapM_cons] at h
    cases hg : g a with
    | none => simp [hg] at h
    | some b =>
      cases hl : l.mapM g with
      | none => simp [hg, hl] at h
      | some l2 =>
        simp [hg, hl] at h
        subst h
        rw [List.mapM_cons]
        simp only [Sem.run_bind, hfg a b hg, mapM_run f g w hfg l l2 hl, Result.andThen_ok, Sem.run_pure]

section
variable {a : Act} (hs : Sim T φ E w fr H a.tmps) (hok : TyOK P T)
include hs hok

theorem ok_alloc {t : TypeId} (ho : o.op = .alloc t)
    (h : (match P.underlying t, (zeroOf P t : Option (List (C I))) with
    | some (.array n e), some z => if z.length = n * T.sz e then (match elems T e n z with | some l => K (.c (.ptr H.length 0)) fr (H ++ [.row e l]) | none => none) else none
    | some _, some z => K (.c (.ptr H.length 0)) fr (H ++ [.var z])
    | _, _ => none) = some out) : Sound P T K out φ E w fr H a o := by
  have hrun : ∀ {i : TypeInfo} {v : Value}, P.info? t = some i → i.zero = some v → (execOp a.eval o).run P w = .ok (.value (.pointer (some ⟨w.heap.size, 0, none⟩))) (w.alloc (.cells v.cells t)) := by
    intro i v h1 h2
    unfold execOp; rw [ho]
    simp only [Instr.alloc, Sem.run_bind, run_zeroValue h1 h2, Result.andThen_ok, newVar, newRow, run_newObj, Sem.run_pure, World.alloc_eq]
  have hrep : ∀ (ob : O I) (o2 : Obj), RepX T (φ ++ [w.heap.size]) (H ++ [ob]) (w.alloc o2) E (.pointer (some ⟨w.heap.size, 0, none⟩)) (.c (.ptr H.length 0)) := fun ob o2 => ⟨w.heap.size, ptr_new φ _ hs.len, rfl⟩
  have hch : ∀ (o2 : Obj), Ch (fun _ => False) w E (w.alloc o2) E := fun o2 => Ch.alloc w E hs.fresh o2 _
  have hgen : ∀ {z : List (C I)} {i : TypeInfo} {v : Value}, P.info? t = some i → i.zero = some v → v.cells.toList.mapM cOf = some z → K (.c (.ptr H.length 0)) fr (H ++ [.var z]) = some out → Sound P T K out φ E w fr H a o := by
    intro z i v h1 h2 h3 h4
    obtain ⟨z1, z2⟩ := zero_cells (T := T) (w := w) (E := E) (t := t) h3
    refine ⟨_, _, _, _, _, _, _, h4, .inl (hrun h1 h2), Res.obj hok hs hs (fun _ _ q => q) _ _ _ ?_ ?_ (hrep _ _) rfl⟩
    · refine ⟨v.cells, t, by have := alloc_here w v.cells t (0, 0); exact this, z1, fun j c hc => ?_⟩
      obtain ⟨u, hu, hr⟩ := z2 j c hc
      exact ⟨u, hu, (RepC.ch hok.len hr (hch (.cells v.cells t)).ext (hch (.cells v.cells t)).cells).toT⟩
    · intro cs e j c u hc hu b hb
      cases e
      obtain ⟨u', hu', hr⟩ := z2 j c hc
      rw [hu] at hu'; cases hu'
      rw [hr.tok] at hb; cases hb
  split at h
  · rename_i q1 q2 n e z hu hz
    obtain ⟨i, v, h1, h2, h3⟩ := zeroOf_some hz
    obtain ⟨z1, z2⟩ := zero_cells (T := T) (w := w) (E := E) (t := t) h3
    split at h
    · rename_i hl
      split at h
      · rename_i l he
        obtain ⟨e1, e2⟩ := elems_some hok he
        refine ⟨_, _, _, _, _, _, _, h, .inl (hrun h1 h2), Res.obj hok hs hs (fun _ _ q => q) _ _ _ ?_ (fun cs e => by cases e) (hrep _ _) rfl⟩
        refine .inr ⟨v.cells, t, by have := alloc_here w v.cells t (0, 0); exact this, by rw [z1, hl, e1]; exact Nat.le_refl _, fun k x hk j c hc => ?_⟩
        obtain ⟨c0, hc0, _, hc2⟩ := (e2 k x hk).2 j c hc
        obtain ⟨u, hu, hr⟩ := z2 _ c0 hc0
        exact ⟨u, hu, RepC.ch hok.len (hc2 w E u hr) (hch (.cells v.cells t)).ext (hch (.cells v.cells t)).cells⟩
      · cases h
    · cases h
  · rename_i q1 q2 d z hu hz
    obtain ⟨i, v, h1, h2, h3⟩ := zeroOf_some hz
    exact hgen h1 h2 h3 h
  · cases h

theorem ok_box {t : TypeId} {x : Operand} (ho : o.op = .box t x)
    (h : (match P.underlying t, yCells (ev T fr x) with
    | some (.array _ _), _ => none
    | _, some vs => K (.c (.ptr H.length 0)) (drop fr x) (H ++ [.var vs])
    | _, _ => none) = some out) : Sound P T K out φ E w fr H a o := by
  have hx := ev_rep hs a.defers x
  have hrun : (execOp a.eval o).run P w = .ok (.value (.pointer (some ⟨w.heap.size, 0, none⟩))) (w.alloc (.cells (a.eval x).cells t)) := by
    unfold execOp; rw [ho]
    simp only [Instr.box, Sem.run_bind, Result.andThen_ok, newVar, newRow, run_newObj, Sem.run_pure, World.alloc_eq]
  split at h
  · cases h
  · rename_i q1 q2 vs hvs hna
    obtain ⟨y1, y2, y3, y4⟩ := y_cells hx hvs
    have hch : Ch (fun _ => False) w E (w.alloc (.cells (a.eval x).cells t)) E := Ch.alloc w E hs.fresh _ _
    refine ⟨_, _, _, _, _, _, _, h, .inl hrun, Res.obj hok hs (drop_sim hs x) (fun i b q => (drop_tok x q).1) _ _ _ ?_ ?_ ⟨w.heap.size, ptr_new φ _ hs.len, rfl⟩ rfl⟩
    · refine ⟨(a.eval x).cells, t, alloc_here w _ t (0, 0), y1, fun j c hc => ?_⟩
      obtain ⟨u, hu, hr⟩ := y2 j c hc
      exact ⟨u, hu, hr.ch hok.len hch (fun _ _ q => get_app_some q) (fun _ _ q => q) (fun k hk => (drop_free hs a.defers x (y4 j c u k hc hu hk).2.2).2.2.1)⟩
    · intro cs e j c u hc hu b hb
      cases e
      obtain ⟨p1, p2, p3⟩ := y4 j c u b hc hu hb
      obtain ⟨f1, f2, f3, f4⟩ := drop_free hs a.defers x p3
      exact ⟨f1, f2, f3, .inr f4, fun j' c' u' hc' hu' hb' => by rw [p1, (y4 j' c' u' b hc' hu' hb').1]⟩
  · cases h

theorem ok_build {t : TypeId} {ps : Array (Nat × Operand)} (ho : o.op = .build t ps)
    (h : (match Go.Proofs.YtgefikclhfjcgaaDoorEv.build P t (ps.toList.map fun p => (p.1, ev T fr p.2)) with | some cs => K (.y (.agg cs)) fr H | none => none) = some out) : Sound P T K out φ E w fr H a o := by
  split at h
  · rename_i cs hb
    unfold Go.Proofs.YtgefikclhfjcgaaDoorEv.build at hb
    split at hb
    · rename_i q1 q2 fs z hu hz
      split at hb
      · rename_i pl hpl
        obtain ⟨i, v, h1, h2, h3⟩ := zeroOf_some hz
        obtain ⟨z1, z2⟩ := zero_cells (T := T) (w := w) (E := E) (t := t) h3
        obtain ⟨arr', k1, k2⟩ := fill_run (H := H) (T := T) (φ := φ) (w := w) (E := E) _ (ps.toList.map fun p => (p.1, a.eval p.2)) z cs v.cells hb
          ⟨z1, fun j c hc => by obtain ⟨u, hu, hr⟩ := z2 j c hc; exact ⟨u, hu, hr.toT, hr.tok⟩⟩ (by simp) (fun j p v hp hv => by
            simp only [List.getElem?_map, Option.map_eq_some_iff] at hp hv
            obtain ⟨p0, hp0, rfl⟩ := hp
            obtain ⟨v0, hv0, rfl⟩ := hv
            rw [hp0] at hv0; cases hv0
            exact ev_rep hs a.defers p0.2)
        have hpl2 : (fs.mapM (m := Sem) fun f => do pure (f.offset, ← sizeOf f.type)).run P w = .ok pl.toArray w := by
          rw [Array.mapM_eq_mapM_toList]
          simp only [Sem.run_map]
          rw [mapM_run _ (fun f : Field => (cellsOf P f.type).map fun n => (f.offset, n)) w (fun f b hf => by
            obtain ⟨n, hn, rfl⟩ := Option.map_eq_some_iff.1 hf
            obtain ⟨i, hi, hsz⟩ := cellsOf_info hn
            simp only [Sem.run_bind, sizeOf, typeInfo, run_program, Result.andThen_ok, hi, Sem.run_pure, hsz]) _ _ hpl]
          rfl
        refine ⟨.agg arr', _, _, _, _, _, _, h, .inl ?_, Res.same hs (x := .y (.agg cs)) ⟨arr', rfl, k2.1, fun j c hc => by obtain ⟨u, hu, hr, _⟩ := k2.2 j c hc; exact ⟨u, hu, hr.weak⟩⟩ rfl⟩
        unfold execOp; rw [ho]
        simp only [Instr.build, Sem.run_bind, run_zeroValue h1 h2, run_underlying hu, Result.andThen_ok, hpl2]
        have hk1 : Instr.fill (fun x => pl.toArray[x]?) v.cells (ps.map fun p => (p.1, a.eval p.2)).toList = some arr' := by
          rw [Array.toList_map, ← k1]
          congr 1
          funext i; simp
        have hmap : (ps.map fun (i, x) => (i, a.eval x)) = ps.map fun p => (p.1, a.eval p.2) := rfl
        rw [hmap, hk1]
        rfl
      · cases hb
    · cases hb
  · cases h
end
end
end Go.Proofs.YtgefikclhfjcgaaDoorEv

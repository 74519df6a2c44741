import PyProof.Rows.All
import Wide.All
import OpenK.AllK
import Wide.FinOn
import HandS.ForMost
import HandS.Flow
import HandS.Style
import HandS.RevRange
import HandS.Wide
import HandS.WideBits
import HandS.Exc
import HandS.ExcOwn
import HandS.ExcInit
import HandS.WordsExc
import HandS.TryOnly
import HandS.TryMany
import HandS.IsInst
import HandS.Conv
import HandS.More
import HandS.Defaults
import HandS.StrMore
import HandS.HeadHook2
import HandS.HeadEnd
import HandS.Deep
import HandS.HeadWalk
import KE.KStateDown
import Lean
import HandS.Head0
import HandS.Head1
import HandS.Head2
import HandS.HeadHook1
import PySem.Challenge.RW_rootspan_k87_papers_scaled
set_option Elab.async false
set_option linter.all false
set_option maxRecDepth 100000
set_option maxHeartbeats 4000000
/-! Ev1: plain data, a small tree of expressions and statements, and what they come to (no machine here). -/
namespace Ev
open PySem L2

/-- plain data -/
inductive D where
  | non | bl (b : Bool) | int (i : Int) | str (x : Str)
  | lst (l : List D) | flst (l : List D) | tup (l : List D) | ins (c : Nat) (fs : List Nat) (l : List D) | obj (n : Nat)
  deriving Inhabited
/-- things that change -/
inductive OE where
  | ins (c : Nat) (fs : List Nat) (l : List D)
  | dict (kvs : List (Key × D))
structure Stt where
  sl : List (Option (Bool × D))
  ob : List OE
inductive O (α : Type) where
  | ok (a : α) (s : Stt)
  | exc (c : Nat) (fs : List Nat) (l : List D) (s : Stt)
def bnd {α β : Type} (x : Option (O α)) (f : α → Stt → Option (O β)) : Option (O β) :=
  match x with
  | none => none
  | some (.exc c fs l s) => some (.exc c fs l s)
  | some (.ok a s) => f a s
inductive FR where
  | ret (own : Bool) (d : D) (ob : List OE)
  | exc (c : Nat) (fs : List Nat) (l : List D) (ob : List OE)
abbrev FSem := List D → List OE → Option FR
structure Tab where
  nm : Nat → Str
  fn : Nat → Option FSem
  mth : Nat → Nat → Option FSem
  mks : Nat → Option FSem
  cst : Nat → Option D
  att : Nat → Nat → Bool
  exc : Nat → Option (Option Nat)

inductive B1 where | len | abs | int | str | list | sum | all | any | sorted
  deriving DecidableEq
inductive B2 where | max | min
  deriving DecidableEq
inductive Ty where | bool | int | str | list | tuple
  deriving DecidableEq
/-- expressions, and rows of them (anil, acons); what a loop walks (rng .. zip) -/
inductive ME where
  | var (i : Nat) | con (c : Const) | glob (k : Nat)
  | bin (op : Operator) (a b : ME) | neg (a : ME)
  | cmp (op : CmpOp) (a b : ME) | chain (op op' : CmpOp) (a b c : ME)
  | not (a : ME) | and (a b : ME) | or (a b : ME) | ite (c a b : ME)
  | call (k : Nat) (es : ME) | make (k : Nat) (es : ME) | meth (m : Nat) (o es : ME)
  | attr (f : Nat) (o : ME)
  | idx (a i : ME) | slc (a lo hi : ME) | rev (a : ME)
  | lst (es : ME) | tup (es : ME)
  | b1 (b : B1) (a : ME) | b2 (b : B2) (a c : ME) | isi (t : Ty) (a : ME)
  | comp (e : ME) (i : Nat) (it : ME) (c : ME) | compt (e : ME) (is : List Nat) (it : ME) (c : ME)
  | rng1 (a : ME) | rng2 (a b : ME) | rng3 (a b c : ME) | rvs (a : ME) | rvr1 (a : ME) | rvr2 (a b : ME) | enm (a : ME) | zip2 (a b : ME)
  | app (i : Nat) (e : ME) | pop (i : Nat)
  | anil | acons (e es : ME)
inductive MS where
  | nil | seq (s t : MS)
  | asg (i : Nat) (e : ME) | asgc (i : Nat) (e : ME)
  | tas (is : List Nat) (e : ME) | par2 (i j : Nat) (a b : ME) | par3 (i j k : Nat) (a b c : ME)
  | sub (i : Nat) (k e : ME) | fld (i f : Nat) (e : ME)
  | ex (e : ME) | ite (c : ME) (a b : MS) | whl (c : ME) (a : MS)
  | forn (i : Nat) (it : ME) (b : MS) | fort (is : List Nat) (it : ME) (b : MS)
  | ret (e : ME) | retN | rai (k : Nat) (es : ME) | pas | stk

/-! ### values -/
instance (a b : Int) : Decidable (IntMulOk a b) := by unfold IntMulOk; infer_instance
def peek (i : Nat) (s : Stt) : Option D := match s.sl[i]? with
  | some (some (_, d)) => some d
  | _ => none
def demote (i : Nat) (s : Stt) : Stt := match s.sl[i]? with
  | some (some (true, d)) => { s with sl := s.sl.set i (some (false, d)) }
  | _ => s
def cut {α : Type} (xs : List α) (lo hi : Option Int) : List α := (xs.drop (HT.sIx xs.length 0 lo)).take (HT.sIx xs.length xs.length hi - HT.sIx xs.length 0 lo)
def conD : Const → Option D
  | .none => some .non
  | .bool b => some (.bl b)
  | .int i => some (.int i)
  | .str x => some (.str x)
  | _ => none
def binD : Operator → D → D → Option (Bool × D)
  | .Add, .int a, .int b => some (false, .int (a + b))
  | .Add, .str a, .str b => if a.length + b.length ≤ 16777216 then some (false, .str (a ++ b)) else none
  | .Add, .lst a, .lst b => if a.length + b.length ≤ 16777216 then some (true, .lst (a ++ b)) else none
  | .Sub, .int a, .int b => some (false, .int (a - b))
  | .Mult, .int a, .int b => if IntMulOk a b then some (false, .int (a * b)) else none
  | .Mult, .lst a, .int k => if -(2 ^ 63) ≤ k ∧ k < 2 ^ 63 ∧ a.length * k.toNat ≤ 16777216 then some (true, .lst (List.replicate k.toNat a).flatten) else none
  | .FloorDiv, .int a, .int b => if b ≠ 0 ∧ Builtin.divisionGoesByPylong a b = false then some (false, .int (a.fdiv b)) else none
  | .Mod, .int a, .int b => if b ≠ 0 then some (false, .int (a.fmod b)) else none
  | .Pow, .int a, .int b => if 0 ≤ b ∧ b ≤ 1000000 ∧ a.natAbs < 2 ^ 64 then some (false, .int (a ^ b.toNat)) else none
  | _, _, _ => none
mutual
def toPy : D → Option PyData
  | .non => some .none
  | .bl b => some (.bool b)
  | .int i => some (.int i)
  | .str x => some (.str x)
  | .lst l => (toPyL l).map .list
  | .flst l => (toPyL l).map .list
  | .tup l => (toPyL l).map .tuple
  | _ => none
def toPyL : List D → Option (List PyData)
  | [] => some []
  | d :: ds => (toPy d).bind fun x => (toPyL ds).map (x :: ·)
end
/-- == -/
def eqD : D → D → Option Bool
  | .int a, .int b => some (decide (a = b))
  | .bl a, .bl b => some (decide (a = b))
  | .str a, .str b => some (decide (a = b))
  | .non, .non => some true
  | .non, .int _ => some false
  | .int _, .non => some false
  | .non, .bl _ => some false
  | .bl _, .non => some false
  | .non, .str _ => some false
  | .str _, .non => some false
  | .int _, .str _ => some false
  | .str _, .int _ => some false
  | .bl _, .str _ => some false
  | .str _, .bl _ => some false
  | x, y => (toPy x).bind fun a => (toPy y).bind fun b => if SeqAt.shaped a = true ∧ SeqAt.shaped b = true then some (PyData.eqv a b) else none
def flatD : D → Bool
  | .non => true
  | .bl _ => true
  | .int _ => true
  | .str _ => true
  | _ => false
def fltV : D → V
  | .bl b => .bl b
  | .int i => .int i
  | .str x => .str x
  | _ => .non
def inD (x : D) (l : List D) : Option Bool := if flatD x = true ∧ l.all flatD = true then some (inV (fltV x) (l.map fltV)) else none
/-- in a list of data -/
def inL (x : D) (l : List D) : Option Bool := match inD x l with
  | some b => some b
  | none => (toPy x).bind fun d => (toPyL l).bind fun ds => if SeqAt.shaped d = true ∧ SeqAt.shaped (.list ds) = true then some (ds.any fun z => PyData.eqv z d) else none
def isNonD : D → Bool
  | .non => true
  | _ => false
def cmpD : CmpOp → D → D → Option Bool
  | .Lt, .int a, .int b => some (decide (a < b))
  | .LtE, .int a, .int b => some (decide (a ≤ b))
  | .Gt, .int a, .int b => some (decide (b < a))
  | .GtE, .int a, .int b => some (decide (b ≤ a))
  | .Eq, x, y => eqD x y
  | .NotEq, x, y => (eqD x y).map (!·)
  | .Is, .bl a, .bl b => some (decide (a = b))
  | .IsNot, .bl a, .bl b => some (!decide (a = b))
  | .Is, x, .non => some (isNonD x)
  | .IsNot, x, .non => some (!isNonD x)
  | .In, .str a, .str b => some (!(Builtin.Str.occurrences b a 0 b.length 1).isEmpty)
  | .NotIn, .str a, .str b => some (!(!(Builtin.Str.occurrences b a 0 b.length 1).isEmpty))
  | .In, x, .lst l => inL x l
  | .In, x, .tup l => inD x l
  | .NotIn, x, .lst l => (inL x l).map (!·)
  | .NotIn, x, .tup l => (inD x l).map (!·)
  | _, _, _ => none
def truD : D → Option Bool
  | .non => some false
  | .bl b => some b
  | .int i => some (i != 0)
  | .str x => if x.length ≤ 16777216 then some ((x.length : Int) != 0) else none
  | .lst l => some (!l.isEmpty)
  | .flst l => some (!l.isEmpty)
  | .tup l => some (!l.isEmpty)
  | _ => none
def idxD : D → D → Option D
  | .lst l, .int i => atI l i
  | .flst l, .int i => atI l i
  | .tup l, .int i => atI l i
  | .str z, .int i => if z.length ≤ 16777216 then (atI z.cps.toList i).map fun c => .str ⟨#[c]⟩ else none
  | _, _ => none
def slcD : D → Option Int → Option Int → Option (Bool × D)
  | .lst l, lo, hi => some (true, .lst (cut l lo hi))
  | .flst l, lo, hi => some (true, .lst (cut l lo hi))
  | .tup l, lo, hi => if HT.sIx l.length 0 lo = 0 ∧ HT.sIx l.length l.length hi = l.length then none else some (false, .tup (cut l lo hi))
  | .str z, lo, hi => if z.length ≤ 16777216 then some (false, .str (cutS z lo hi)) else none
  | _, _, _ => none
def revD : D → Option (Bool × D)
  | .lst l => some (true, .lst l.reverse)
  | .flst l => some (true, .lst l.reverse)
  | _ => none
def lenD : D → Option Int
  | .str x => if x.length ≤ 16777216 then some x.length else none
  | .lst l => some l.length
  | .flst l => some l.length
  | .tup l => some l.length
  | _ => none
def intsD : List D → Option (List Int)
  | [] => some []
  | .int i :: r => (intsD r).map (i :: ·)
  | _ => none
def blsD : List D → Option (List Bool)
  | [] => some []
  | .bl i :: r => (blsD r).map (i :: ·)
  | _ => none
def b1D : B1 → D → Option (Bool × D)
  | .len, d => (lenD d).map fun n => (false, .int n)
  | .abs, .int i => some (false, .int (if i < 0 then -i else i))
  | .int, .int i => some (false, .int i)
  | .int, .bl k => some (false, .int (if k then 1 else 0))
  | .str, .int i => if i.natAbs.log2 < 1920 then some (false, .str (toString i)) else none
  | .list, .lst l => some (true, .lst l)
  | .list, .flst l => some (true, .lst l)
  | .list, .tup l => some (true, .lst l)
  | .sum, .lst l => (intsD l).map fun ns => (false, .int ns.sum)
  | .all, .lst l => (blsD l).map fun bs => (false, .bl (bs.all id))
  | .any, .lst l => (blsD l).map fun bs => (false, .bl (bs.any id))
  | _, _ => none
def b2D : B2 → D → D → Option D
  | .max, .int i, .int j => some (.int (if j > i then j else i))
  | .min, .int i, .int j => some (.int (if j < i then j else i))
  | _, _, _ => none
def isiD : Ty → D → Option Bool
  | _, .ins _ _ _ => none
  | _, .obj _ => none
  | .bool, .bl _ => some true
  | .bool, _ => some false
  | .int, .bl _ => some true
  | .int, .int _ => some true
  | .int, _ => some false
  | .str, .str _ => some true
  | .str, _ => some false
  | .list, .lst _ => some true
  | .list, .flst _ => some true
  | .list, _ => some false
  | .tuple, .tup _ => some true
  | .tuple, _ => some false
def attrD (att : Nat → Nat → Bool) (f : Nat) (d : D) (s : Stt) : Option D := match d with
  | .ins c fs l => if att c f = true then (fs.zip l).lookup f else none
  | .obj n => (match s.ob[n]? with
    | some (.ins c fs l) => if att c f = true then (fs.zip l).lookup f else none
    | _ => none)
  | _ => none
/-- the class of what a method is asked of -/
def clsD (m : Nat) (d : D) (s : Stt) : Option Nat := match d with
  | .ins c fs _ => if fs.contains m = true then none else some c
  | .obj n => (match s.ob[n]? with
    | some (.ins c fs _) => if fs.contains m = true then none else some c
    | _ => none)
  | _ => none
/-- a call's end -/
def ofFR (r : Option FR) (s : Stt) : Option (O (Bool × D)) := match r with
  | none => none
  | some (.ret own d ob) => some (.ok (own, d) { s with ob := ob })
  | some (.exc c fs l ob) => some (.exc c fs l { s with ob := ob })
/-- what is handed to the rest as a value of its own -/
def val {α : Type} (x : Option α) (s : Stt) : Option (O α) := x.map fun a => .ok a s
def optI : D → Option (Option Int)
  | .non => some none
  | .int i => some (some i)
  | _ => none
def isVar : ME → Option Nat
  | .var i => some i
  | _ => none
/-- an operand: a name is read behind all others -/
def opnd (a : ME) (ea : Stt → Option (O (Bool × D))) (s : Stt) : Option (O (Option D)) := match isVar a with
  | some i => (peek i s).bind fun _ => some (.ok none s)
  | none => bnd (ea s) fun r s1 => some (.ok (some r.2) s1)
def late (a : ME) (r : Option D) (s : Stt) : Option D := match r with
  | some d => some d
  | none => (match isVar a with
    | some i => peek i s
    | none => none)
def setD (i : Nat) (r : Bool × D) (s : Stt) : Option Stt := if i < s.sl.length then some { s with sl := s.sl.set i (some r) } else none
def setAll : List Nat → List D → Stt → Option Stt
  | [], [], s => some s
  | i :: is, d :: ds, s => (setD i (false, d) s).bind (setAll is ds)
  | _, _, _ => none
/-- the names of a block forgotten -/
def wipeS : List Nat → List (Option (Bool × D)) → List (Option (Bool × D))
  | [], sl => sl
  | i :: is, sl => (wipeS is sl).set i none
/-- n turns over data -/
def compR (i : Nat) (ee : Stt → Option (O (Bool × D))) (ec : Option (Stt → Option (O Bool))) : List D → List D → Stt → Option (O (List D))
  | [], acc, s => some (.ok acc s)
  | d :: ds, acc, s =>
    (match ec with
    | none => some (.ok true { s with sl := s.sl.set i (some (false, d)) })
    | some c => c { s with sl := s.sl.set i (some (false, d)) }) |> fun t => bnd t fun b s1 =>
      if b = true then bnd (ee s1) fun r s2 => if acc.length < 16777216 then compR i ee ec ds (acc ++ [r.2]) { s2 with sl := s2.sl.set i none } else none
      else compR i ee ec ds acc { s1 with sl := s1.sl.set i none }
/-- n turns over rows of data, several names -/
def compRT (is : List Nat) (ee : Stt → Option (O (Bool × D))) (ec : Option (Stt → Option (O Bool))) : List D → List D → Stt → Option (O (List D))
  | [], acc, s => some (.ok acc s)
  | d :: ds, acc, s => (match d with
    | .tup l => (setAll is l s).bind fun s0 => (match ec with
      | none => some (.ok true s0)
      | some c => c s0) |> fun t => bnd t fun b s1 =>
        if b = true then bnd (ee s1) fun r s2 => if acc.length < 16777216 then compRT is ee ec ds (acc ++ [r.2]) { s2 with sl := wipeS is s2.sl } else none
        else compRT is ee ec ds acc { s1 with sl := wipeS is s1.sl }
    | _ => none)
def noExc {α : Type} (x : Option (O α)) : Option (O α) := match x with
  | some (.ok a s) => some (.ok a s)
  | _ => none
def intl (l : List Int) : List D := l.map .int
def rngI (lo hi : Int) : List Int := (List.range (hi - lo).toNat).map fun k => lo + (k : Nat)
def rngC (lo hi c : Int) : List Int := (List.range (Builtin.Range.rangeSize lo hi c).toNat).map fun k => lo + (k : Nat) * c
def okR (i : Int) : Bool := decide (-(2 ^ 62) ≤ i) && decide (i < 2 ^ 62)
def enumD (l : List D) : List D := (List.range l.length).zip l |>.map fun p => .tup [.int (p.1 : Nat), p.2]
/-- what a node is: as an expression, a test, a row of arguments, a bound of a slice, a thing that is walked -/
structure Rdg where
  E : Stt → Option (O (Bool × D))
  T : Stt → Option (O Bool)
  A : Stt → Option (O (List D))
  B : Stt → Option (O (Option Int))
  I : Stt → Option (O (List D))
@[simp] def tstE (e : Stt → Option (O (Bool × D))) (s : Stt) : Option (O Bool) := bnd (e s) fun x s1 => val (truD x.2) s1
def bndE (e : Stt → Option (O (Bool × D))) (s : Stt) : Option (O (Option Int)) := bnd (e s) fun x s1 => (match x.2 with
  | .int i => some (.ok (some i) s1)
  | _ => none)
def itrD : D → Option (List D)
  | .lst l => some l
  | .flst l => some l
  | .tup l => some l
  | .str z => some (z.cps.toList.map fun c => .str ⟨#[c]⟩)
  | _ => none
@[simp] def itrE (e : Stt → Option (O (Bool × D))) (s : Stt) : Option (O (List D)) := bnd (e s) fun x s1 => val (itrD x.2) s1
def mkR (e : Stt → Option (O (Bool × D))) : Rdg := ⟨e, tstE e, fun _ => none, bndE e, itrE e⟩
def mkI (e : Stt → Option (O (List D))) : Rdg := ⟨fun _ => none, fun _ => none, fun _ => none, fun _ => none, e⟩
def negD : D → Option D
  | .int i => some (.int (-i))
  | _ => none
def appD (i : Nat) (d : D) (s : Stt) : Option Stt := match s.sl[i]? with
  | some (some (true, .lst l)) => if l.length < 16777216 then some { s with sl := s.sl.set i (some (true, .lst (l ++ [d]))) } else none
  | _ => none
def ownB (i : Nat) (s : Stt) : Bool := match s.sl[i]? with
  | some (some (true, .lst _)) => true
  | _ => false
def popD (i : Nat) (s : Stt) : Option (D × Stt) := match s.sl[i]? with
  | some (some (true, .lst l)) => (l[l.length - 1]?).map fun d => (d, { s with sl := s.sl.set i (some (true, .lst l.dropLast)) })
  | _ => none
def rng1D : D → Option (List D)
  | .int j => if okR j = true then some (intl (rngI 0 j)) else none
  | _ => none
def rng2D : D → D → Option (List D)
  | .int i, .int j => if okR i = true ∧ okR j = true then some (intl (rngI i j)) else none
  | _, _ => none
def rng3D : D → D → D → Option (List D)
  | .int i, .int j, .int c => if c ≠ 0 ∧ c.natAbs < 1073741824 ∧ Builtin.Range.small i j c = true then some (intl (rngC i j c)) else none
  | _, _, _ => none
def rvsD : D → Option (List D)
  | .lst l => some l.reverse
  | .flst l => some l.reverse
  | _ => none
def zipD : D → D → Option (List D)
  | .lst l, .lst r => some ((l.zip r).map fun p => .tup [p.1, p.2])
  | .lst l, .flst r => some ((l.zip r).map fun p => .tup [p.1, p.2])
  | .flst l, .lst r => some ((l.zip r).map fun p => .tup [p.1, p.2])
  | .flst l, .flst r => some ((l.zip r).map fun p => .tup [p.1, p.2])
  | _, _ => none
def enmD : D → Option (List D)
  | .lst l => some (enumD l)
  | .flst l => some (enumD l)
  | _ => none
@[simp] def isNil : ME → Bool
  | .anil => true
  | _ => false
def ev (G : Tab) : ME → Rdg
  | .var i => { mkR (fun s => (peek i s).bind fun d => some (.ok (false, d) (demote i s))) with T := fun s => (peek i s).bind fun d => val (truD d) s }
  | .con c => mkR fun s => (conD c).bind fun d => some (.ok (false, d) s)
  | .glob k => mkR fun s => (G.cst k).bind fun d => some (.ok (false, d) s)
  | .bin op a b => mkR fun s => bnd (opnd a (ev G a).E s) fun x s1 => bnd (opnd b (ev G b).E s1) fun y s2 => (late a x s2).bind fun x => (late b y s2).bind fun y => val (binD op x y) s2
  | .neg a => mkR fun s => bnd ((ev G a).E s) fun x s1 => (negD x.2).bind fun d => some (.ok (false, d) s1)
  | .cmp op a b => mkR fun s => bnd (opnd a (ev G a).E s) fun x s1 => bnd (opnd b (ev G b).E s1) fun y s2 => (late a x s2).bind fun x => (late b y s2).bind fun y => (cmpD op x y).bind fun r => some (.ok (false, .bl r) s2)
  | .chain op op' a b c => mkR fun s => bnd ((ev G a).E s) fun x s1 => bnd ((ev G b).E s1) fun y s2 => (cmpD op x.2 y.2).bind fun r => if r = true then bnd ((ev G c).E s2) fun z s3 => (cmpD op' y.2 z.2).bind fun r => some (.ok (false, .bl r) s3) else some (.ok (false, .bl false) s2)
  | .not a => { mkR (fun s => bnd (opnd a (ev G a).E s) fun x s1 => (late a x s1).bind fun x => (truD x).bind fun b => some (.ok (false, .bl (!b)) s1)) with T := fun s => bnd ((ev G a).T s) fun b s1 => some (.ok (!b) s1) }
  | .and a b => { mkR (fun s => bnd ((ev G a).E s) fun x s1 => (truD x.2).bind fun t => if t = true then (ev G b).E s1 else some (.ok (false, x.2) s1)) with
      T := fun s => bnd ((ev G a).T s) fun t s1 => if t = true then (ev G b).T s1 else some (.ok false s1) }
  | .or a b => { mkR (fun s => bnd ((ev G a).E s) fun x s1 => (truD x.2).bind fun t => if t = true then some (.ok (false, x.2) s1) else (ev G b).E s1) with
      T := fun s => bnd ((ev G a).T s) fun t s1 => if t = true then some (.ok true s1) else (ev G b).T s1 }
  | .ite c a b => { mkR (fun s => bnd ((ev G c).T s) fun t s1 => if t = true then (ev G a).E s1 else (ev G b).E s1) with T := fun _ => none }
  | .call k es => mkR fun s => (G.fn k).bind fun f => bnd ((ev G es).A s) fun ds s1 => ofFR (f ds s1.ob) s1
  | .make k es => mkR fun s => (G.mks k).bind fun f => bnd ((ev G es).A s) fun ds s1 => ofFR (f ds s1.ob) s1
  | .meth m o es => mkR fun s => bnd ((ev G o).E s) fun x s1 => (clsD m x.2 s1).bind fun c => (G.mth c m).bind fun f => bnd ((ev G es).A s1) fun ds s2 => ofFR (f (x.2 :: ds) s2.ob) s2
  | .attr f o => mkR fun s => bnd ((ev G o).E s) fun x s1 => (attrD G.att f x.2 s1).bind fun d => some (.ok (false, d) s1)
  | .idx a b => mkR fun s => bnd (opnd a (ev G a).E s) fun x s1 => bnd (opnd b (ev G b).E s1) fun y s2 => (late a x s2).bind fun x => (late b y s2).bind fun y => (idxD x y).bind fun d => some (.ok (false, d) s2)
  | .slc a lo hi => mkR fun s => bnd (opnd a (ev G a).E s) fun x s1 => bnd ((ev G lo).B s1) fun l s2 => bnd ((ev G hi).B s2) fun h s3 => (late a x s3).bind fun x => val (slcD x l h) s3
  | .rev a => mkR fun s => bnd (opnd a (ev G a).E s) fun x s1 => (late a x s1).bind fun x => val (revD x) s1
  | .lst es => mkR fun s => bnd ((ev G es).A s) fun ds s1 => if ds.length ≤ 16777216 then some (.ok (true, .lst ds) s1) else none
  | .tup es => mkR fun s => bnd ((ev G es).A s) fun ds s1 => if ds.length ≤ 16777216 then some (.ok (false, .tup ds) s1) else none
  | .b1 b a => mkR fun s => bnd (opnd a (ev G a).E s) fun x s1 => (late a x s1).bind fun x => val (b1D b x) s1
  | .b2 b a c => mkR fun s => bnd ((ev G a).E s) fun x s1 => bnd ((ev G c).E s1) fun y s2 => (b2D b x.2 y.2).bind fun d => some (.ok (false, d) s2)
  | .isi t a => mkR fun s => bnd ((ev G a).E s) fun x s1 => (isiD t x.2).bind fun r => some (.ok (false, .bl r) s1)
  | .comp e i it c => mkR fun s => bnd ((ev G it).I s) fun ds s1 => if i < s1.sl.length then
      noExc (bnd (compR i (ev G e).E (if isNil c = true then none else some (ev G c).T) ds [] { s1 with sl := s1.sl.set i none }) fun acc s2 => some (.ok (true, .lst acc) s2)) else none
  | .compt e is it c => mkR fun s => bnd ((ev G it).I s) fun ds s1 => if (is.all fun i => decide (i < s1.sl.length)) = true then
      noExc (bnd (compRT is (ev G e).E (if isNil c = true then none else some (ev G c).T) ds [] { s1 with sl := wipeS is s1.sl }) fun acc s2 => some (.ok (true, .lst acc) s2)) else none
  | .app i e => mkR fun s => if ownB i s = true then bnd ((ev G e).E s) fun x s1 => (appD i x.2 s1).bind fun s2 => some (.ok (false, .non) s2) else none
  | .pop i => mkR fun s => (popD i s).bind fun r => some (.ok (false, r.1) r.2)
  | .anil => ⟨fun _ => none, fun _ => none, fun s => some (.ok [] s), fun s => some (.ok none s), fun _ => none⟩
  | .acons e es => ⟨fun _ => none, fun _ => none, fun s => bnd ((ev G e).E s) fun x s1 => bnd ((ev G es).A s1) fun ds s2 => some (.ok (x.2 :: ds) s2), fun _ => none, fun _ => none⟩
  | .rng1 a => mkI fun s => bnd ((ev G a).E s) fun x s1 => val (rng1D x.2) s1
  | .rng2 a b => mkI fun s => bnd ((ev G a).E s) fun x s1 => bnd ((ev G b).E s1) fun y s2 => val (rng2D x.2 y.2) s2
  | .rng3 a b c => mkI fun s => bnd ((ev G a).E s) fun x s1 => bnd ((ev G b).E s1) fun y s2 => bnd ((ev G c).E s2) fun z s3 => val (rng3D x.2 y.2 z.2) s3
  | .rvs a => mkI fun s => bnd ((ev G a).E s) fun x s1 => val (rvsD x.2) s1
  | .rvr1 a => mkI fun s => bnd ((ev G a).E s) fun x s1 => val ((rng1D x.2).map List.reverse) s1
  | .rvr2 a b => mkI fun s => bnd ((ev G a).E s) fun x s1 => bnd ((ev G b).E s1) fun y s2 => val ((rng2D x.2 y.2).map List.reverse) s2
  | .enm a => mkI fun s => bnd ((ev G a).E s) fun x s1 => val (enmD x.2) s1
  | .zip2 a b => mkI fun s => bnd ((ev G a).E s) fun x s1 => bnd ((ev G b).E s1) fun y s2 => val (zipD x.2 y.2) s2
/-! ### statements -/
inductive Out where
  | nx (s : Stt)
  | rt (own : Bool) (d : D) (s : Stt)
  | exc (c : Nat) (fs : List Nat) (l : List D) (s : Stt)
def obnd {α : Type} (x : Option (O α)) (f : α → Stt → Option Out) : Option Out := match x with
  | none => none
  | some (.exc c fs l s) => some (.exc c fs l s)
  | some (.ok a s) => f a s
def thenO (x : Option Out) (f : Stt → Option Out) : Option Out := match x with
  | some (.nx s) => f s
  | r => r
@[simp] def putD (f : Nat) (d : D) : List Nat → List D → List Nat × List D
  | g :: fs, x :: l => if g = f then (g :: fs, d :: l) else let r := putD f d fs l; (g :: r.1, x :: r.2)
  | _, _ => ([f], [d])
def forR (f : D → Stt → Option Out) : List D → Stt → Option Out
  | [], s => some (.nx s)
  | d :: ds, s => thenO (f d s) (forR f ds)
/-- n turns of a while at most -/
def whlN (c : Stt → Option (O Bool)) (b : Stt → Option Out) : Nat → Stt → Option Out
  | 0, _ => none
  | n + 1, s => obnd (c s) fun t s1 => if t = true then thenO (b s1) (whlN c b n) else some (.nx s1)
open Classical in
noncomputable def whl (c : Stt → Option (O Bool)) (b : Stt → Option Out) (s : Stt) : Option Out :=
  if h : ∃ n, (whlN c b n s).isSome = true then whlN c b h.choose s else none
noncomputable def evS (G : Tab) : MS → Stt → Option Out
  | .nil, s => some (.nx s)
  | .pas, s => some (.nx s)
  | .stk, _ => none
  | .seq a b, s => thenO (evS G a s) (evS G b)
  | .asg i e, s => obnd ((ev G e).E s) fun r s1 => (setD i r s1).map .nx
  | .asgc i e, s => obnd ((ev G e).E s) fun r s1 => (setD i r s1).map .nx
  | .tas is e, s => obnd ((ev G e).E s) fun r s1 => (match r.2 with
    | .tup l => (setAll is l s1).map .nx
    | .lst l => (setAll is l s1).map .nx
    | _ => none)
  | .par2 i j a b, s => obnd ((ev G a).E s) fun x s1 => obnd ((ev G b).E s1) fun y s2 => ((setD i (false, x.2) s2).bind (setD j (false, y.2))).map .nx
  | .par3 i j k a b c, s => obnd ((ev G a).E s) fun x s1 => obnd ((ev G b).E s1) fun y s2 => obnd ((ev G c).E s2) fun z s3 => (((setD i (false, x.2) s3).bind (setD j (false, y.2))).bind (setD k (false, z.2))).map .nx
  | .sub i k e, s => obnd ((ev G e).E s) fun x s1 => (peek i s1).bind fun _ => obnd ((ev G k).E s1) fun y s2 => (match y.2, s2.sl[i]? with
    | .int n, some (some (true, .lst l)) => (ixN l.length n).bind fun j => some (.nx { s2 with sl := s2.sl.set i (some (true, .lst (l.set j x.2))) })
    | _, _ => none)
  | .fld i f e, s => obnd ((ev G e).E s) fun x s1 => (match peek i s1 with
    | some (.obj n) => (match s1.ob[n]? with
      | some (.ins c fs l) => if fs.length < 100 ∧ G.att c f = true then some (.nx { s1 with ob := s1.ob.set n (.ins c (putD f x.2 fs l).1 (putD f x.2 fs l).2) }) else none
      | _ => none)
    | _ => none)
  | .ex e, s => obnd ((ev G e).E s) fun _ s1 => some (.nx s1)
  | .ite c a b, s => obnd ((ev G c).T s) fun t s1 => if t = true then evS G a s1 else evS G b s1
  | .whl c b, s => whl ((ev G c).T) (evS G b) s
  | .forn i it b, s => obnd ((ev G it).I s) fun ds s1 => forR (fun d s => (setD i (false, d) s).bind (evS G b)) ds s1
  | .fort is it b, s => obnd ((ev G it).I s) fun ds s1 => forR (fun d s => (match d with
    | .tup l => (setAll is l s).bind (evS G b)
    | _ => none)) ds s1
  | .ret (.var i), s => (match s.sl[i]? with
    | some (some (o, d)) => some (.rt o d { s with sl := s.sl.set i none })
    | _ => none)
  | .ret e, s => obnd ((ev G e).E s) fun r s1 => some (.rt r.1 r.2 s1)
  | .retN, s => some (.rt false .non s)
  | .rai k es, s => (G.exc k).bind fun x => obnd ((ev G es).A s) fun ds s1 => (match x, ds with
    | none, [] => some (.exc k [] [] s1)
    | some f, [d] => some (.exc k [f] [d] s1)
    | _, _ => none)
/-- a def: n slots, its body -/
noncomputable def defSem (G : Tab) (n : Nat) (b : MS) : FSem := fun ds ob =>
  match evS G b ⟨ds.map (fun d => some (false, d)) ++ List.replicate (n - ds.length) none, ob⟩ with
  | none => none
  | some (.nx s) => some (.ret false .non s.ob)
  | some (.rt own d s) => some (.ret own d s.ob)
  | some (.exc c fs l s) => some (.exc c fs l s.ob)
/-! ### making -/
def pureD : D → Bool
  | .non => true
  | .bl _ => true
  | .int _ => true
  | .str _ => true
  | .lst l => pureL l
  | .flst l => pureL l
  | .tup l => pureL l
  | .ins _ _ l => pureL l
  | .obj _ => false
where pureL : List D → Bool
  | [] => true
  | d :: ds => pureD d && pureL ds
/-- C(..), the instance never changed behind its __init__ -/
def mkF (c : Nat) (init : FSem) : FSem := fun ds ob => if pureD.pureL ds = true then (match init (.obj 0 :: ds) [.ins c [] []] with
  | some (.ret false .non [.ins c' fs l]) => if c' = c ∧ fs.length = l.length ∧ pureD.pureL l = true then some (.ret false (.ins c fs l) ob) else none
  | some (.exc x fs l _) => if pureD.pureL l = true then some (.exc x fs l ob) else none
  | _ => none) else none
/-- C(..), a thing that changes -/
def mkM (c : Nat) (init : FSem) : FSem := fun ds ob => match init (.obj ob.length :: ds) (ob ++ [.ins c [] []]) with
  | some (.ret false .non ob') => some (.ret false (.obj ob.length) ob')
  | some (.exc x fs l ob') => some (.exc x fs l ob')
  | _ => none
end Ev
set_option Elab.async false
set_option linter.all false
set_option maxRecDepth 100000
set_option maxHeartbeats 4000000
/-! Ev2: how plain data lies in the abstract heap, and what keeps it. -/
namespace Ev
open PySem L2

def KLst (K : PySem.W.Frag) (a : Addr) (xs : List V) : Prop :=
  ∃ (o : Obj) (its : Array Value) (n : Nat), K.lookup a = some o ∧ o.cls = .type "list" ∧ o.dict = none ∧ o.data = .seq its n ∧ its.size ≤ sizeLine ∧ Vals xs its.toList
def KTup (K : PySem.W.Frag) (a : Addr) (xs : List V) : Prop :=
  ∃ (o : Obj) (its : Array Value) (n : Nat), K.lookup a = some o ∧ o.cls = .type "tuple" ∧ o.data = .seq its n ∧ its.size ≤ sizeLine ∧ Vals xs its.toList
abbrev AS := Addr → Prop
section
variable (K : PySem.W.Frag) (nm : Nat → Str) (S : AS) (H : Hp) (ms : List Addr)
def FzL (a : Addr) (xs : List V) : Prop := (S a ∧ Rd H a (.lst xs)) ∨ KLst K a xs
def TpS (a : Addr) (xs : List V) : Prop := (S a ∧ Rd H a (.tup xs)) ∨ KTup K a xs
mutual
def Rep : D → V → Prop
  | .non, v => v = .non
  | .bl b, v => v = .bl b
  | .int i, v => v = .int i
  | .str x, v => v = .str x
  | .lst l, v => ∃ a xs, v = .ref a ∧ S a ∧ H a = some (.lst xs) ∧ RepL l xs
  | .flst l, v => ∃ a xs, v = .ref a ∧ FzL K S H a xs ∧ RepL l xs
  | .tup l, v => ∃ a xs, v = .ref a ∧ TpS K S H a xs ∧ RepL l xs
  | .ins c fs l, v => ∃ a dx vs, v = .ref a ∧ S a ∧ H a = some (.ins (He.ga K (nm c)) dx ((fs.map nm).zip vs)) ∧ fs.length = l.length ∧ RepL l vs
  | .obj n, v => ∃ a, v = .ref a ∧ ms[n]? = some a
def RepL : List D → List V → Prop
  | [], [] => True
  | d :: ds, v :: vs => Rep d v ∧ RepL ds vs
  | _, _ => False
end
/-- as an operand: a list may be a name's own one -/
def RepW (d : D) (v : V) : Prop := match d with
  | .lst l => ∃ a xs, v = .ref a ∧ H a = some (.lst xs) ∧ RepL K nm S H ms l xs
  | d => Rep K nm S H ms d v
def OeR : OE → Addr → Prop
  | .ins c fs l, a => ∃ dx vs, H a = some (.ins (He.ga K (nm c)) dx ((fs.map nm).zip vs)) ∧ fs.length = l.length ∧ RepL K nm S H ms l vs
  | .dict kvs, a => ∃ vs, H a = some (.dK ((kvs.map (·.1)).zip vs)) ∧ RepL K nm S H ms (kvs.map (·.2)) vs
end
section
variable {K : PySem.W.Frag} {nm : Nat → Str} {S S' S'' : AS} {H H' H'' : Hp} {ms ms' ms'' : List Addr}
structure Ext (S : AS) (H : Hp) (ms : List Addr) (S' : AS) (H' : Hp) (ms' : List Addr) : Prop where
  sub : ∀ a, S a → S' a
  same : ∀ a, S a → H' a = H a
  pre : ∃ t, ms' = ms ++ t
theorem Ext.refl : Ext S H ms S H ms := ⟨fun _ h => h, fun _ _ => rfl, [], by simp⟩
theorem Ext.trans (x : Ext S H ms S' H' ms') (y : Ext S' H' ms' S'' H'' ms'') : Ext S H ms S'' H'' ms'' :=
  ⟨fun a h => y.sub a (x.sub a h), fun a h => (y.same a (x.sub a h)).trans (x.same a h), by
    obtain ⟨t, rfl⟩ := x.pre
    obtain ⟨u, rfl⟩ := y.pre
    exact ⟨t ++ u, by rw [List.append_assoc]⟩⟩
theorem Ext.ms_get (x : Ext S H ms S' H' ms') {n : Nat} {a : Addr} (h : ms[n]? = some a) : ms'[n]? = some a := by
  obtain ⟨t, rfl⟩ := x.pre
  rw [List.getElem?_append_left (List.getElem?_eq_some_iff.mp h).1]
  exact h
theorem Ext.fzl (x : Ext S H ms S' H' ms') {a : Addr} {xs : List V} (h : FzL K S H a xs) : FzL K S' H' a xs := by
  rcases h with ⟨s, h⟩ | h
  · refine .inl ⟨x.sub a s, ?_⟩
    rcases h with h | ⟨o, h⟩
    · exact .inl ((x.same a s).trans h)
    · exact .inr ⟨o, (x.same a s).trans h⟩
  · exact .inr h
theorem Ext.tps (x : Ext S H ms S' H' ms') {a : Addr} {xs : List V} (h : TpS K S H a xs) : TpS K S' H' a xs := by
  rcases h with ⟨s, h⟩ | h
  · refine .inl ⟨x.sub a s, ?_⟩
    rcases h with h | ⟨o, h⟩
    · exact .inl ((x.same a s).trans h)
    · exact .inr ⟨o, (x.same a s).trans h⟩
  · exact .inr h
mutual
theorem Rep.ext (x : Ext S H ms S' H' ms') : ∀ {d : D} {v : V}, Rep K nm S H ms d v → Rep K nm S' H' ms' d v
  | .non, _, h => h
  | .bl _, _, h => h
  | .int _, _, h => h
  | .str _, _, h => h
  | .lst l, _, h => by
    obtain ⟨a, xs, e, s, ha, r⟩ := h
    exact ⟨a, xs, e, x.sub a s, (x.same a s).trans ha, RepL.ext x r⟩
  | .flst l, _, h => by
    obtain ⟨a, xs, e, s, r⟩ := h
    exact ⟨a, xs, e, x.fzl s, RepL.ext x r⟩
  | .tup l, _, h => by
    obtain ⟨a, xs, e, s, r⟩ := h
    exact ⟨a, xs, e, x.tps s, RepL.ext x r⟩
  | .ins c fs l, _, h => by
    obtain ⟨a, dx, vs, e, s, ha, hl, r⟩ := h
    exact ⟨a, dx, vs, e, x.sub a s, (x.same a s).trans ha, hl, RepL.ext x r⟩
  | .obj n, _, h => by
    obtain ⟨a, e, h⟩ := h
    exact ⟨a, e, x.ms_get h⟩
theorem RepL.ext (x : Ext S H ms S' H' ms') : ∀ {l : List D} {vs : List V}, RepL K nm S H ms l vs → RepL K nm S' H' ms' l vs
  | [], [], _ => trivial
  | [], _ :: _, h => h.elim
  | _ :: _, [], h => h.elim
  | d :: ds, v :: vs, h => ⟨Rep.ext x h.1, RepL.ext x h.2⟩
end
theorem RepL.len : ∀ {l : List D} {vs : List V}, RepL K nm S H ms l vs → l.length = vs.length
  | [], [], _ => rfl
  | [], _ :: _, h => h.elim
  | _ :: _, [], h => h.elim
  | d :: ds, v :: vs, h => congrArg (· + 1) (RepL.len h.2)
theorem RepL.get : ∀ {l : List D} {vs : List V} {i : Nat} {d : D}, RepL K nm S H ms l vs → l[i]? = some d → ∃ v, vs[i]? = some v ∧ Rep K nm S H ms d v
  | [], [], _, _, _, h => by simp at h
  | [], _ :: _, _, _, h, _ => h.elim
  | _ :: _, [], _, _, h, _ => h.elim
  | d :: ds, v :: vs, 0, _, h, e => by
    simp at e
    subst e
    exact ⟨v, rfl, h.1⟩
  | d :: ds, v :: vs, i + 1, _, h, e => by
    obtain ⟨u, h1, h2⟩ := RepL.get (i := i) h.2 (by simpa using e)
    exact ⟨u, by simpa using h1, h2⟩
theorem RepL.get' {l : List D} {vs : List V} {i : Nat} {v : V} (h : RepL K nm S H ms l vs) (e : vs[i]? = some v) : ∃ d, l[i]? = some d ∧ Rep K nm S H ms d v := by
  have hl := h.len
  have hi := (List.getElem?_eq_some_iff.mp e).1
  have e1 : l[i]? = some l[i] := List.getElem?_eq_getElem (by omega)
  obtain ⟨u, h1, h2⟩ := h.get e1
  rw [e] at h1
  cases h1
  exact ⟨_, e1, h2⟩
theorem RepL.append : ∀ {l l' : List D} {vs vs' : List V}, RepL K nm S H ms l vs → RepL K nm S H ms l' vs' → RepL K nm S H ms (l ++ l') (vs ++ vs')
  | [], _, [], _, _, h' => h'
  | [], _, _ :: _, _, h, _ => h.elim
  | _ :: _, _, [], _, h, _ => h.elim
  | _ :: _, _, _ :: _, _, h, h' => ⟨h.1, RepL.append h.2 h'⟩
theorem RepL.of_get : ∀ {l : List D} {vs : List V}, l.length = vs.length → (∀ (i : Nat) (d : D) (v : V), l[i]? = some d → vs[i]? = some v → Rep K nm S H ms d v) → RepL K nm S H ms l vs
  | [], [], _, _ => trivial
  | [], _ :: _, h, _ => by simp at h
  | _ :: _, [], h, _ => by simp at h
  | d :: ds, v :: vs, h, f => ⟨f 0 d v rfl rfl, RepL.of_get (by simpa using h) fun i d' v' h1 h2 => f (i + 1) d' v' (by simpa using h1) (by simpa using h2)⟩
theorem RepL.at {l : List D} {vs : List V} (h : RepL K nm S H ms l vs) {i : Nat} {d : D} {v : V} (h1 : l[i]? = some d) (h2 : vs[i]? = some v) : Rep K nm S H ms d v := by
  obtain ⟨u, e, r⟩ := RepL.get h h1
  rw [h2] at e
  cases e
  exact r
theorem RepL.set {l : List D} {vs : List V} {j : Nat} {d : D} {v : V} (h : RepL K nm S H ms l vs) (r : Rep K nm S H ms d v) : RepL K nm S H ms (l.set j d) (vs.set j v) := by
  refine RepL.of_get (by simpa using h.len) fun i d' v' h1 h2 => ?_
  rw [List.getElem?_set] at h1 h2
  by_cases e : j = i
  · subst e
    have hl := h.len
    by_cases hj : j < l.length
    · rw [if_pos rfl, if_pos hj] at h1
      rw [if_pos rfl, if_pos (by omega)] at h2
      cases h1
      cases h2
      exact r
    · rw [if_pos rfl, if_neg hj] at h1
      cases h1
  · rw [if_neg e] at h1 h2
    exact h.at h1 h2
theorem RepL.drop {l : List D} {vs : List V} (n : Nat) (h : RepL K nm S H ms l vs) : RepL K nm S H ms (l.drop n) (vs.drop n) := by
  refine RepL.of_get (by simp [h.len]) fun i d v h1 h2 => ?_
  rw [List.getElem?_drop] at h1 h2
  exact h.at h1 h2
theorem RepL.take {l : List D} {vs : List V} (n : Nat) (h : RepL K nm S H ms l vs) : RepL K nm S H ms (l.take n) (vs.take n) := by
  refine RepL.of_get (by simp [h.len]) fun i d v h1 h2 => ?_
  rw [List.getElem?_take] at h1 h2
  split at h1
  · rename_i hi
    rw [if_pos hi] at h2
    exact h.at h1 h2
  · cases h1
theorem RepL.reverse {l : List D} {vs : List V} (h : RepL K nm S H ms l vs) : RepL K nm S H ms l.reverse vs.reverse := by
  have hl := h.len
  refine RepL.of_get (by simp [hl]) fun i d v h1 h2 => ?_
  have hi : i < l.length := by
    have := (List.getElem?_eq_some_iff.mp h1).1
    simpa using this
  rw [List.getElem?_reverse hi] at h1
  rw [List.getElem?_reverse (by omega)] at h2
  rw [hl] at h1
  exact h.at h1 h2
theorem RepL.flatten {vs : List V} {l : List D} (h : RepL K nm S H ms l vs) : ∀ n : Nat, RepL K nm S H ms (List.replicate n l).flatten (List.replicate n vs).flatten
  | 0 => trivial
  | n + 1 => by
    rw [List.replicate_succ, List.replicate_succ, List.flatten_cons, List.flatten_cons]
    exact RepL.append h (RepL.flatten h n)
theorem RepL.dropLast {l : List D} {vs : List V} (h : RepL K nm S H ms l vs) : RepL K nm S H ms l.dropLast vs.dropLast := by
  rw [List.dropLast_eq_take, List.dropLast_eq_take, h.len]
  exact h.take _
theorem RepL.intl : ∀ (l : List Int), RepL K nm S H ms (intl l) (l.map V.int)
  | [] => trivial
  | i :: r => ⟨rfl, RepL.intl r⟩
theorem RepL.intl_of : ∀ {l : List Int} {vs : List V}, RepL K nm S H ms (Ev.intl l) vs → vs = l.map V.int
  | [], [], _ => rfl
  | [], _ :: _, h => h.elim
  | _ :: _, [], h => h.elim
  | i :: r, v :: vs, h => by
    have h1 : v = .int i := h.1
    rw [h1, RepL.intl_of (l := r) (vs := vs) h.2]
    rfl
theorem Rep.w {d : D} {v : V} (h : Rep K nm S H ms d v) : RepW K nm S H ms d v := by
  cases d with
  | lst l =>
    obtain ⟨a, xs, e, s, ha, r⟩ := h
    exact ⟨a, xs, e, ha, r⟩
  | _ => exact h

/-! ### the state of a body -/
/-- what stands at every call: nothing of the slots -/
structure SB (K : PySem.W.Frag) (nm : Nat → Str) (S : AS) (H : Hp) (ms : List Addr) (ob : List OE) : Prop where
  s_in : ∀ a, S a → H a ≠ none
  s_ms : ∀ a, a ∈ ms → ¬ S a
  nd : ms.Nodup
  len : ms.length = ob.length
  obs : ∀ (n : Nat) (a : Addr) (o : OE), ms[n]? = some a → ob[n]? = some o → OeR K nm S H ms o a
theorem SB.there {ob : List OE} (b : SB K nm S H ms ob) {a : Addr} (h : a ∈ ms) : H a ≠ none := by
  obtain ⟨n, hn, e⟩ := List.getElem_of_mem h
  have e1 : ms[n]? = some a := by rw [List.getElem?_eq_getElem hn, e]
  have hn2 : n < ob.length := by rw [← b.len]; exact hn
  have r := b.obs n a ob[n] e1 (List.getElem?_eq_getElem hn2)
  cases q : ob[n] with
  | ins c fs l =>
    rw [q] at r
    obtain ⟨dx, vs, h1, _⟩ := r
    rw [h1]
    exact fun z => nomatch z
  | dict kvs =>
    rw [q] at r
    obtain ⟨vs, h1, _⟩ := r
    rw [h1]
    exact fun z => nomatch z
/-- the entry of a body -/
structure Ent where
  S : AS
  H : Hp
  ms : List Addr
  pins : List (Addr × List V)
structure Fr (e : Ent) (S : AS) (H : Hp) (ms : List Addr) : Prop where
  sub : ∀ a, e.S a → S a
  new : ∀ a, S a → e.S a ∨ e.H a = none
  pre : ∃ t, ms = e.ms ++ t ∧ ∀ a ∈ t, e.H a = none
  keep : ∀ a o, e.H a = some o → a ∉ e.ms → H a = some o
  stay : ∀ a, a ∈ e.ms → H a ≠ none
theorem Fr.free {e : Ent} (f : Fr e S H ms) {p : Addr} (h : H p = none) : e.H p = none := by
  cases q : e.H p with
  | none => rfl
  | some o =>
    by_cases hp : p ∈ e.ms
    · exact absurd h (f.stay p hp)
    · have := f.keep p o q hp
      rw [h] at this
      cases this
theorem Fr.refl {e : Ent} {ob : List OE} (b : SB K nm e.S e.H e.ms ob) : Fr e e.S e.H e.ms :=
  ⟨fun _ h => h, fun _ h => .inl h, ⟨[], by simp, fun _ h => by simp at h⟩, fun _ _ h _ => h, fun _ h => b.there h⟩
theorem Fr.trans {e : Ent} (x : Fr e S H ms) (y : Fr ⟨S, H, ms, []⟩ S' H' ms') : Fr e S' H' ms' where
  sub := fun a h => y.sub a (x.sub a h)
  new := fun a h => by
    rcases y.new a h with h | h
    · exact x.new a h
    · exact .inr (x.free h)
  pre := by
    obtain ⟨t, e1, h1⟩ := x.pre
    obtain ⟨u, e2, h2⟩ := y.pre
    have e2 : ms' = ms ++ u := e2
    refine ⟨t ++ u, by rw [e2, e1, List.append_assoc], fun a ha => ?_⟩
    rcases List.mem_append.mp ha with h | h
    · exact h1 a h
    · exact x.free (h2 a h)
  keep := fun a o h hn => by
    have h1 := x.keep a o h hn
    refine y.keep a o h1 fun hm => ?_
    obtain ⟨t, e1, ht⟩ := x.pre
    have hm : a ∈ ms := hm
    rw [e1] at hm
    rcases List.mem_append.mp hm with hm | hm
    · exact hn hm
    · rw [ht a hm] at h
      cases h
  stay := fun a h => y.stay a (by
    obtain ⟨t, e1, _⟩ := x.pre
    show a ∈ ms
    rw [e1]
    exact List.mem_append_left _ h)
/-- a slot -/
def SlOk (K : PySem.W.Frag) (nm : Nat → Str) (e : Ent) (S : AS) (H : Hp) (ms : List Addr) (r : Bool × D) (o : Option V) : Prop := match r with
  | (false, d) => ∃ v, o = some v ∧ Rep K nm S H ms d v
  | (true, d) => ∃ p xs l, d = .lst l ∧ o = some (.ref p) ∧ ¬ S p ∧ H p = some (.lst xs) ∧ RepL K nm S H ms l xs ∧ e.H p = none ∧ p ∉ ms
structure SR (K : PySem.W.Frag) (nm : Nat → Str) (e : Ent) (S : AS) (H : Hp) (ms : List Addr) (σ : St) (st : Stt) : Prop where
  b : SB K nm S H ms st.ob
  fr : Fr e S H ms
  len : σ.length = st.sl.length
  slots : ∀ (i : Nat) (r : Bool × D), st.sl[i]? = some (some r) → ∃ o, σ[i]? = some o ∧ SlOk K nm e S H ms r o
  inj : ∀ (i j : Nat) (d d' : D) (p : Addr), i ≠ j → st.sl[i]? = some (some (true, d)) → st.sl[j]? = some (some (true, d')) → σ[i]? = some (some (V.ref p)) → σ[j]? ≠ some (some (V.ref p))
  pin : ∀ q, q ∈ e.pins → H q.1 = some (.lst q.2) ∧ ¬ S q.1 ∧ q.1 ∉ ms ∧ e.H q.1 = none ∧ ∀ (i : Nat) (d : D), st.sl[i]? = some (some (true, d)) → σ[i]? ≠ some (some (V.ref q.1))
/-- a list just made: nobody else has it -/
structure Own (K : PySem.W.Frag) (nm : Nat → Str) (e : Ent) (S : AS) (H : Hp) (ms : List Addr) (σ : St) (st : Stt) (l : List D) (p : Addr) : Prop where
  nS : ¬ S p
  nM : p ∉ ms
  at_ : ∃ xs, H p = some (.lst xs) ∧ RepL K nm S H ms l xs
  new : e.H p = none
  apart : ∀ (i : Nat) (d : D), st.sl[i]? = some (some (true, d)) → σ[i]? ≠ some (some (V.ref p))
  pin : ∀ q, q ∈ e.pins → q.1 ≠ p
def RV (K : PySem.W.Frag) (nm : Nat → Str) (e : Ent) (S : AS) (H : Hp) (ms : List Addr) (σ : St) (st : Stt) (r : Bool × D) (v : V) : Prop := match r with
  | (false, d) => Rep K nm S H ms d v
  | (true, d) => ∃ p l, d = .lst l ∧ v = .ref p ∧ Own K nm e S H ms σ st l p
variable {e : Ent} {σ : St} {st : Stt}
theorem SlOk.ext (x : Ext S H ms S' H' ms') (hn : ∀ p, ¬ S p → H p ≠ none → e.H p = none → p ∉ ms → (∃ (i : Nat) (d : D), st.sl[i]? = some (some (true, d)) ∧ σ[i]? = some (some (V.ref p))) → ¬ S' p ∧ H' p = H p ∧ p ∉ ms') {i : Nat} {r : Bool × D} {o : Option V}
    (hi : st.sl[i]? = some (some r)) (ho : σ[i]? = some o) (h : SlOk K nm e S H ms r o) : SlOk K nm e S' H' ms' r o := by
  obtain ⟨own, d⟩ := r
  cases own with
  | false =>
    obtain ⟨v, e1, r⟩ := h
    exact ⟨v, e1, r.ext x⟩
  | true =>
    obtain ⟨p, xs, l, e1, e2, h1, h2, h3, h4, h5⟩ := h
    subst e2
    obtain ⟨k1, k2, k3⟩ := hn p h1 (by rw [h2]; exact fun z => nomatch z) h4 h5 ⟨i, d, hi, ho⟩
    exact ⟨p, xs, l, e1, rfl, k1, k2.trans h2, h3.ext x, h4, k3⟩
theorem OeR.ext {o : OE} {a : Addr} (x : Ext S H ms S' H' ms') (ha : H' a = H a) (h : OeR K nm S H ms o a) : OeR K nm S' H' ms' o a := by
  cases o with
  | ins c fs l =>
    obtain ⟨dx, vs, h1, h2, h3⟩ := h
    exact ⟨dx, vs, ha.trans h1, h2, h3.ext x⟩
  | dict kvs =>
    obtain ⟨vs, h1, h2⟩ := h
    exact ⟨vs, ha.trans h1, h2.ext x⟩
theorem SR.free (R : SR K nm e S H ms σ st) {p : Addr} (h : H p = none) : e.H p = none := R.fr.free h
theorem SR.notS (R : SR K nm e S H ms σ st) {p : Addr} (h : H p = none) : ¬ S p := fun s => R.b.s_in p s h
theorem SR.notM (R : SR K nm e S H ms σ st) {p : Addr} (h : H p = none) : p ∉ ms := fun s => R.b.there s h
/-- a new object p is laid; S' may take it in -/
theorem SR.laid (R : SR K nm e S H ms σ st) {p : Addr} {o : HO} (hp : H p = none) {S' : AS} (hS : ∀ a, S a → S' a) (hS' : ∀ a, S' a → S a ∨ a = p) :
    Ext S H ms S' (upd H p o) ms ∧ SR K nm e S' (upd H p o) ms σ st := by
  have neS : ∀ a, S a → a ≠ p := fun a s z => R.notS hp (z ▸ s)
  have neM : ∀ a, a ∈ ms → a ≠ p := fun a s z => R.notM hp (z ▸ s)
  have x : Ext S H ms S' (upd H p o) ms := ⟨hS, fun a s => upd_ne (neS a s), [], by simp⟩
  refine ⟨x, ⟨fun a s => ?_, fun a m s => ?_, R.b.nd, R.b.len, fun n a o' h1 h2 => (R.b.obs n a o' h1 h2).ext x (upd_ne (neM a (List.mem_of_getElem? h1)))⟩, ⟨fun a h => hS a (R.fr.sub a h), fun a h => ?_, R.fr.pre, fun a o' h hn => ?_, fun a h => ?_⟩, R.len, fun i r h => ?_, R.inj, fun q hq => ?_⟩
  · rcases hS' a s with s | rfl
    · rw [upd_ne (neS a s)]
      exact R.b.s_in a s
    · rw [upd_same]
      exact fun z => nomatch z
  · rcases hS' a s with s | rfl
    · exact R.b.s_ms a m s
    · exact neM _ m rfl
  · rcases hS' a h with h | rfl
    · exact R.fr.new a h
    · exact .inr (R.free hp)
  · have h1 := R.fr.keep a o' h hn
    rw [upd_ne (ne_of_none h1 hp)]
    exact h1
  · by_cases z : a = p
    · rw [z, upd_same]
      exact fun z => nomatch z
    · rw [upd_ne z]
      exact R.fr.stay a h
  · obtain ⟨o', e1, h1⟩ := R.slots i r h
    refine ⟨o', e1, h1.ext (σ := σ) (st := st) x (fun q hq hH he hm hex => ?_) h e1⟩
    have qp : q ≠ p := fun z => hH (z ▸ hp)
    refine ⟨fun s => ?_, upd_ne qp, hm⟩
    rcases hS' q s with s | z
    · exact hq s
    · exact qp z
  · obtain ⟨h1, h2, h3, h4, h5⟩ := R.pin q hq
    have qp : q.1 ≠ p := ne_of_none h1 hp
    refine ⟨(upd_ne qp).trans h1, fun s => ?_, h3, h4, h5⟩
    rcases hS' q.1 s with s | z
    · exact h2 s
    · exact qp z
/-- a new list, its own -/
theorem SR.laidOwn (R : SR K nm e S H ms σ st) {p : Addr} {xs : List V} {l : List D} (hp : H p = none) (hr : RepL K nm S H ms l xs) :
    Ext S H ms S (upd H p (.lst xs)) ms ∧ SR K nm e S (upd H p (.lst xs)) ms σ st ∧ Own K nm e S (upd H p (.lst xs)) ms σ st l p := by
  obtain ⟨x, R'⟩ := R.laid (o := .lst xs) hp (S' := S) (fun _ h => h) (fun _ h => .inl h)
  refine ⟨x, R', R.notS hp, R.notM hp, ⟨xs, upd_same, hr.ext x⟩, R.free hp, fun i d h z => ?_, fun q hq => ne_of_none (R.pin q hq).1 hp⟩
  obtain ⟨o, e1, q, ys, l', _, e2, _, h2, _⟩ := R.slots i _ h
  rw [z] at e1
  cases e1
  cases e2
  rw [hp] at h2
  cases h2
/-- a new object in S -/
theorem SR.laidS (R : SR K nm e S H ms σ st) {p : Addr} {o : HO} (hp : H p = none) :
    Ext S H ms (fun a => S a ∨ a = p) (upd H p o) ms ∧ SR K nm e (fun a => S a ∨ a = p) (upd H p o) ms σ st :=
  R.laid hp (fun _ h => .inl h) (fun _ h => h)
/-- a list of one's own is given to all -/
theorem SR.share (R : SR K nm e S H ms σ st) {l : List D} {p : Addr} (O : Own K nm e S H ms σ st l p) :
    Ext S H ms (fun a => S a ∨ a = p) H ms ∧ SR K nm e (fun a => S a ∨ a = p) H ms σ st ∧ Rep K nm (fun a => S a ∨ a = p) H ms (.lst l) (.ref p) := by
  have x : Ext S H ms (fun a => S a ∨ a = p) H ms := ⟨fun _ h => .inl h, fun _ _ => rfl, [], by simp⟩
  obtain ⟨xs, h1, h2⟩ := O.at_
  refine ⟨x, ⟨⟨fun a s => ?_, fun a m s => ?_, R.b.nd, R.b.len, fun n a o' h1 h2 => (R.b.obs n a o' h1 h2).ext x rfl⟩, ⟨fun a h => .inl (R.fr.sub a h), fun a h => ?_, R.fr.pre, R.fr.keep, R.fr.stay⟩, R.len, fun i r h => ?_, R.inj, fun q hq => ?_⟩, p, xs, rfl, .inr rfl, h1, h2.ext x⟩
  · rcases s with s | rfl
    · exact R.b.s_in a s
    · rw [h1]
      exact fun z => nomatch z
  · rcases s with s | rfl
    · exact R.b.s_ms a m s
    · exact O.nM m
  · rcases h with h | rfl
    · exact R.fr.new a h
    · exact .inr O.new
  · obtain ⟨o', e1, h1⟩ := R.slots i r h
    refine ⟨o', e1, h1.ext (σ := σ) (st := st) x (fun q hq hH he hm ⟨j, d, hj, hs⟩ => ⟨fun s => ?_, rfl, hm⟩) h e1⟩
    rcases s with s | rfl
    · exact hq s
    · exact O.apart j d hj hs
  · obtain ⟨g1, g2, g3, g4, g5⟩ := R.pin q hq
    refine ⟨g1, fun s => ?_, g3, g4, g5⟩
    rcases s with s | z
    · exact g2 s
    · exact O.pin q hq z
/-- whatever is told, as a thing that all may have -/
theorem SR.shared (R : SR K nm e S H ms σ st) {r : Bool × D} {v : V} (h : RV K nm e S H ms σ st r v) : ∃ S', Ext S H ms S' H ms ∧ SR K nm e S' H ms σ st ∧ Rep K nm S' H ms r.2 v := by
  obtain ⟨own, d⟩ := r
  cases own with
  | false => exact ⟨S, .refl, R, h⟩
  | true =>
    obtain ⟨p, l, rfl, rfl, O⟩ := h
    obtain ⟨x, R', q⟩ := R.share O
    exact ⟨_, x, R', q⟩
/-- a slot is set -/
theorem SR.setSh (R : SR K nm e S H ms σ st) {i : Nat} {d : D} {v : V} (h : Rep K nm S H ms d v) : SR K nm e S H ms (σ.set i (some v)) { st with sl := st.sl.set i (some (false, d)) } := by
  refine ⟨R.b, R.fr, by simpa using R.len, fun j r hj => ?_, fun j k d1 d2 p hjk h1 h2 h3 h4 => ?_, fun q hq => ?_⟩
  · have hj : (st.sl.set i (some (false, d)))[j]? = some (some r) := hj
    by_cases z : i = j
    · subst z
      have hi : i < st.sl.length := by
        have := (List.getElem?_eq_some_iff.mp hj).1
        simpa using this
      rw [List.getElem?_set_self hi] at hj
      cases hj
      exact ⟨some v, List.getElem?_set_self (by rw [R.len]; exact hi), v, rfl, h⟩
    · rw [List.getElem?_set_ne z] at hj ⊢
      exact R.slots j r hj
  · have h1 : (st.sl.set i (some (false, d)))[j]? = some (some (true, d1)) := h1
    have h2 : (st.sl.set i (some (false, d)))[k]? = some (some (true, d2)) := h2
    have nj : i ≠ j := fun z => by
      subst z
      rw [List.getElem?_set] at h1
      simp only [if_true] at h1
      split at h1 <;> cases h1
    have nk : i ≠ k := fun z => by
      subst z
      rw [List.getElem?_set] at h2
      simp only [if_true] at h2
      split at h2 <;> cases h2
    rw [List.getElem?_set_ne nj] at h1 h3
    rw [List.getElem?_set_ne nk] at h2 h4
    exact R.inj j k d1 d2 p hjk h1 h2 h3 h4
  · obtain ⟨g1, g2, g3, g4, g5⟩ := R.pin q hq
    refine ⟨g1, g2, g3, g4, fun j d' hj => ?_⟩
    have hj : (st.sl.set i (some (false, d)))[j]? = some (some (true, d')) := hj
    have nj : i ≠ j := fun z => by
      subst z
      rw [List.getElem?_set] at hj
      simp only [if_true] at hj
      split at hj <;> cases hj
    rw [List.getElem?_set_ne nj] at hj ⊢
    exact g5 j d' hj
theorem SR.setOwn (R : SR K nm e S H ms σ st) {i : Nat} {l : List D} {p : Addr} (O : Own K nm e S H ms σ st l p) : SR K nm e S H ms (σ.set i (some (V.ref p))) { st with sl := st.sl.set i (some (true, .lst l)) } := by
  refine ⟨R.b, R.fr, by simpa using R.len, fun j r hj => ?_, fun j k d1 d2 q hjk h1 h2 h3 h4 => ?_, fun q hq => ?_⟩
  · have hj : (st.sl.set i (some (true, .lst l)))[j]? = some (some r) := hj
    by_cases z : i = j
    · subst z
      have hi : i < st.sl.length := by
        have := (List.getElem?_eq_some_iff.mp hj).1
        simpa using this
      rw [List.getElem?_set_self hi] at hj
      cases hj
      obtain ⟨xs, h1, h2⟩ := O.at_
      exact ⟨some (.ref p), List.getElem?_set_self (by rw [R.len]; exact hi), p, xs, l, rfl, rfl, O.nS, h1, h2, O.new, O.nM⟩
    · rw [List.getElem?_set_ne z] at hj ⊢
      exact R.slots j r hj
  · have h1 : (st.sl.set i (some (true, .lst l)))[j]? = some (some (true, d1)) := h1
    have h2 : (st.sl.set i (some (true, .lst l)))[k]? = some (some (true, d2)) := h2
    by_cases nj : i = j
    · subst nj
      have hi : i < σ.length := by
        have := (List.getElem?_eq_some_iff.mp h3).1
        simpa using this
      rw [List.getElem?_set_self hi] at h3
      cases h3
      rw [List.getElem?_set_ne hjk] at h2 h4
      exact O.apart k d2 h2 h4
    · rw [List.getElem?_set_ne nj] at h1 h3
      by_cases nk : i = k
      · subst nk
        have hi : i < σ.length := by
          have := (List.getElem?_eq_some_iff.mp h4).1
          simpa using this
        rw [List.getElem?_set_self hi] at h4
        cases h4
        exact O.apart j d1 h1 h3
      · rw [List.getElem?_set_ne nk] at h2 h4
        exact R.inj j k d1 d2 q hjk h1 h2 h3 h4
  · obtain ⟨g1, g2, g3, g4, g5⟩ := R.pin q hq
    refine ⟨g1, g2, g3, g4, fun j d' hj => ?_⟩
    have hj : (st.sl.set i (some (true, .lst l)))[j]? = some (some (true, d')) := hj
    by_cases nj : i = j
    · subst nj
      intro z
      have hi : i < σ.length := by
        have := (List.getElem?_eq_some_iff.mp z).1
        simpa using this
      rw [List.getElem?_set_self hi] at z
      cases z
      exact O.pin q hq rfl
    · rw [List.getElem?_set_ne nj] at hj ⊢
      exact g5 j d' hj
theorem SR.setAny (R : SR K nm e S H ms σ st) {i : Nat} {r : Bool × D} {v : V} (h : RV K nm e S H ms σ st r v) : SR K nm e S H ms (σ.set i (some v)) { st with sl := st.sl.set i (some r) } := by
  obtain ⟨own, d⟩ := r
  cases own with
  | false => exact R.setSh h
  | true =>
    obtain ⟨p, l, rfl, rfl, O⟩ := h
    exact R.setOwn O
/-- a slot is forgotten -/
theorem SR.wipe (R : SR K nm e S H ms σ st) {i : Nat} : SR K nm e S H ms (σ.set i none) { st with sl := st.sl.set i none } := by
  have key : ∀ {j : Nat} {r : Bool × D}, (st.sl.set i none)[j]? = some (some r) → i ≠ j ∧ st.sl[j]? = some (some r) := fun {j r} hj => by
    by_cases z : i = j
    · subst z
      rw [List.getElem?_set] at hj
      simp only [if_true] at hj
      split at hj <;> cases hj
    · rw [List.getElem?_set_ne z] at hj
      exact ⟨z, hj⟩
  refine ⟨R.b, R.fr, by simpa using R.len, fun j r hj => ?_, fun j k d1 d2 p hjk h1 h2 h3 h4 => ?_, fun q hq => ?_⟩
  · obtain ⟨z, hj⟩ := key hj
    rw [List.getElem?_set_ne z]
    exact R.slots j r hj
  · obtain ⟨z, h1⟩ := key h1
    obtain ⟨z2, h2⟩ := key h2
    rw [List.getElem?_set_ne z] at h3
    rw [List.getElem?_set_ne z2] at h4
    exact R.inj j k d1 d2 p hjk h1 h2 h3 h4
  · obtain ⟨g1, g2, g3, g4, g5⟩ := R.pin q hq
    refine ⟨g1, g2, g3, g4, fun j d' hj => ?_⟩
    obtain ⟨z, hj⟩ := key hj
    rw [List.getElem?_set_ne z]
    exact g5 j d' hj
/-- .. in what is known alone -/
theorem SR.forget (R : SR K nm e S H ms σ st) {i : Nat} : SR K nm e S H ms σ { st with sl := st.sl.set i none } := by
  have key : ∀ {j : Nat} {r : Bool × D}, (st.sl.set i none)[j]? = some (some r) → i ≠ j ∧ st.sl[j]? = some (some r) := fun {j r} hj => by
    by_cases z : i = j
    · subst z
      rw [List.getElem?_set] at hj
      simp only [if_true] at hj
      split at hj <;> cases hj
    · rw [List.getElem?_set_ne z] at hj
      exact ⟨z, hj⟩
  refine ⟨R.b, R.fr, by simpa using R.len, fun j r hj => R.slots j r (key hj).2, fun j k d1 d2 p hjk h1 h2 h3 h4 => R.inj j k d1 d2 p hjk (key h1).2 (key h2).2 h3 h4, fun q hq => ?_⟩
  obtain ⟨g1, g2, g3, g4, g5⟩ := R.pin q hq
  exact ⟨g1, g2, g3, g4, fun j d' hj => g5 j d' (key hj).2⟩
/-- what a name's own list stands at -/
theorem SR.ownAt (R : SR K nm e S H ms σ st) {i : Nat} {d : D} (h : st.sl[i]? = some (some (true, d))) :
    ∃ p xs l, d = .lst l ∧ σ[i]? = some (some (V.ref p)) ∧ ¬ S p ∧ H p = some (.lst xs) ∧ RepL K nm S H ms l xs ∧ e.H p = none ∧ p ∉ ms := by
  obtain ⟨o, e1, p, xs, l, e2, e3, r⟩ := R.slots i _ h
  exact ⟨p, xs, l, e2, by rw [e1, e3], r⟩
/-- a name's own list is changed -/
theorem SR.ownSet (R : SR K nm e S H ms σ st) {i : Nat} {d : D} {p : Addr} {ys : List V} {l' : List D} (h : st.sl[i]? = some (some (true, d))) (hp : σ[i]? = some (some (V.ref p))) (hr : RepL K nm S H ms l' ys) :
    Ext S H ms S (upd H p (.lst ys)) ms ∧ SR K nm e S (upd H p (.lst ys)) ms σ { st with sl := st.sl.set i (some (true, .lst l')) } := by
  obtain ⟨q, xs, l, e1, e2, h1, h2, h3, h4, h5⟩ := R.ownAt h
  rw [hp] at e2
  cases e2
  have x : Ext S H ms S (upd H p (.lst ys)) ms := ⟨fun _ s => s, fun a s => upd_ne fun z => h1 (z ▸ s), [], by simp⟩
  refine ⟨x, ⟨fun a s => ?_, R.b.s_ms, R.b.nd, R.b.len, fun n a o' g1 g2 => (R.b.obs n a o' g1 g2).ext x (upd_ne fun z => h5 (z ▸ List.mem_of_getElem? g1))⟩, ⟨R.fr.sub, R.fr.new, R.fr.pre, fun a o' h hn => ?_, fun a h => ?_⟩, by simpa using R.len, fun j r hj => ?_, fun j k d1 d2 q hjk g1 g2 g3 g4 => ?_, fun q hq => ?_⟩
  · rw [upd_ne (show a ≠ p from fun z => h1 (z ▸ s))]
    exact R.b.s_in a s
  · rw [upd_ne (show a ≠ p from fun z => by rw [z, h4] at h; cases h)]
    exact R.fr.keep a o' h hn
  · by_cases z : a = p
    · rw [z, upd_same]
      exact fun z => nomatch z
    · rw [upd_ne z]
      exact R.fr.stay a h
  · have hj : (st.sl.set i (some (true, .lst l')))[j]? = some (some r) := hj
    by_cases z : i = j
    · subst z
      have hi : i < st.sl.length := by
        have := (List.getElem?_eq_some_iff.mp hj).1
        simpa using this
      rw [List.getElem?_set_self hi] at hj
      cases hj
      exact ⟨_, hp, p, ys, l', rfl, rfl, h1, upd_same, hr.ext x, h4, h5⟩
    · rw [List.getElem?_set_ne z] at hj
      obtain ⟨o', f1, f2⟩ := R.slots j r hj
      refine ⟨o', f1, ?_⟩
      obtain ⟨own, d'⟩ := r
      cases own with
      | false =>
        obtain ⟨v, g1, g2⟩ := f2
        exact ⟨v, g1, g2.ext x⟩
      | true =>
        obtain ⟨q, zs, l2, g1, g2, g3, g4, g5, g6, g7⟩ := f2
        subst g2
        have qp : q ≠ p := fun w => R.inj i j _ _ p z h hj hp (by rw [f1, w])
        exact ⟨q, zs, l2, g1, rfl, g3, (upd_ne qp).trans g4, g5.ext x, g6, g7⟩
  · have key : ∀ {j : Nat} {d1 : D}, (st.sl.set i (some (true, .lst l')))[j]? = some (some (true, d1)) → ∃ d2, st.sl[j]? = some (some (true, d2)) := fun {j d1} hj => by
      by_cases z : i = j
      · subst z
        exact ⟨d, h⟩
      · rw [List.getElem?_set_ne z] at hj
        exact ⟨d1, hj⟩
    obtain ⟨d3, g1⟩ := key g1
    obtain ⟨d4, g2⟩ := key g2
    exact R.inj j k d3 d4 q hjk g1 g2 g3 g4
  · obtain ⟨g1, g2, g3, g4, g5⟩ := R.pin q hq
    have qp : q.1 ≠ p := fun z => g5 i d h (by rw [hp, z])
    refine ⟨(upd_ne qp).trans g1, g2, g3, g4, fun j d' hj => ?_⟩
    have hj : (st.sl.set i (some (true, .lst l')))[j]? = some (some (true, d')) := hj
    by_cases z : i = j
    · subst z
      exact g5 i d h
    · rw [List.getElem?_set_ne z] at hj
      exact g5 j d' hj
/-- a name's own list is read whole: it is all's from then on -/
theorem SR.demote (R : SR K nm e S H ms σ st) {i : Nat} {d : D} (h : peek i st = some d) : ∃ S' v, Ext S H ms S' H ms ∧ SR K nm e S' H ms σ (demote i st) ∧ σ[i]? = some (some v) ∧ Rep K nm S' H ms d v := by
  unfold peek at h
  unfold Ev.demote
  cases q : st.sl[i]? with
  | none =>
    rw [q] at h
    cases h
  | some r =>
    cases r with
    | none =>
      rw [q] at h
      cases h
    | some r =>
      obtain ⟨own, d'⟩ := r
      rw [q] at h
      have h : some d' = some d := h
      cases h
      cases own with
      | false =>
        obtain ⟨o, e1, v, e2, r⟩ := R.slots i _ q
        exact ⟨S, v, .refl, R, by rw [e1, e2], r⟩
      | true =>
        obtain ⟨p, xs, l, rfl, hp, h1, h2, h3, h4, h5⟩ := R.ownAt q
        have R1 := R.forget (i := i)
        have O : Own K nm e S H ms σ { st with sl := st.sl.set i none } l p := ⟨h1, h5, ⟨xs, h2, h3⟩, h4, fun j d hj hs => by
          have hj : (st.sl.set i none)[j]? = some (some (true, d)) := hj
          by_cases z : i = j
          · subst z
            rw [List.getElem?_set] at hj
            simp only [if_true] at hj
            split at hj <;> cases hj
          · rw [List.getElem?_set_ne z] at hj
            exact R.inj i j _ _ p z q hj hp hs, fun r hr z => (R.pin r hr).2.2.2.2 i _ q (by rw [hp, z])⟩
        obtain ⟨x, R2, r⟩ := R1.share O
        have R3 := R2.setSh (i := i) r
        have e1 : σ.set i (some (V.ref p)) = σ := by
          refine List.ext_getElem? fun j => ?_
          rw [List.getElem?_set]
          split
          · rename_i z
            subst z
            split
            · exact hp.symm
            · rename_i hl
              exact absurd (List.getElem?_eq_some_iff.mp hp).1 hl
          · rfl
        rw [e1] at R3
        have e2 : (st.sl.set i none).set i (some (false, D.lst l)) = st.sl.set i (some (false, D.lst l)) := by rw [List.set_set]
        refine ⟨_, .ref p, x, ?_, hp, r⟩
        have R4 : SR K nm e (fun a => S a ∨ a = p) H ms σ { sl := (st.sl.set i none).set i (some (false, D.lst l)), ob := st.ob } := R3
        rw [e2] at R4
        exact R4
/-- a name as an operand -/
theorem SR.peekW (R : SR K nm e S H ms σ st) {i : Nat} {d : D} (h : peek i st = some d) : ∃ v, σ[i]? = some (some v) ∧ RepW K nm S H ms d v := by
  unfold peek at h
  cases q : st.sl[i]? with
  | none =>
    rw [q] at h
    cases h
  | some r =>
    cases r with
    | none =>
      rw [q] at h
      cases h
    | some r =>
      obtain ⟨own, d'⟩ := r
      rw [q] at h
      have h : some d' = some d := h
      cases h
      cases own with
      | false =>
        obtain ⟨o, e1, v, e2, r⟩ := R.slots i _ q
        exact ⟨v, by rw [e1, e2], r.w⟩
      | true =>
        obtain ⟨p, xs, l, rfl, hp, h1, h2, h3, h4, h5⟩ := R.ownAt q
        exact ⟨.ref p, hp, p, xs, rfl, h2, h3⟩
/-- behind a call -/
theorem SR.called (R : SR K nm e S H ms σ st) {ob' : List OE} (f : Fr ⟨S, H, ms, []⟩ S' H' ms') (b : SB K nm S' H' ms' ob') :
    Ext S H ms S' H' ms' ∧ SR K nm e S' H' ms' σ { st with ob := ob' } := by
  have x : Ext S H ms S' H' ms' := ⟨f.sub, fun a s => by
    cases q : H a with
    | none => exact absurd q (R.b.s_in a s)
    | some o => exact f.keep a o q fun m => R.b.s_ms a m s, let ⟨t, h, _⟩ := f.pre; ⟨t, h⟩⟩
  refine ⟨x, b, R.fr.trans f, R.len, fun i r h => ?_, R.inj, fun q hq => ?_⟩
  rotate_left
  · obtain ⟨g1, g2, g3, g4, g5⟩ := R.pin q hq
    refine ⟨f.keep q.1 _ g1 g3, fun s => ?_, fun m => ?_, g4, g5⟩
    · rcases f.new q.1 s with s | s
      · exact g2 s
      · have s : H q.1 = none := s
        rw [g1] at s
        cases s
    · obtain ⟨t, et, ht⟩ := f.pre
      rw [et] at m
      rcases List.mem_append.mp m with m | m
      · exact g3 m
      · have s : H q.1 = none := ht q.1 m
        rw [g1] at s
        cases s
  obtain ⟨o', e1, h1⟩ := R.slots i r h
  refine ⟨o', e1, h1.ext (σ := σ) (st := st) x (fun q hq hH he hm _ => ⟨fun s => ?_, ?_, fun m => ?_⟩) h e1⟩
  · rcases f.new q s with s | s
    · exact hq s
    · exact hH s
  · cases z : H q with
    | none => exact absurd z hH
    | some o => exact f.keep q o z hm
  · obtain ⟨t, et, ht⟩ := f.pre
    rw [et] at m
    rcases List.mem_append.mp m with m | m
    · exact hm m
    · exact hH (ht q m)
/-! ### what a def promises -/
/-- how an exception lies: its own dict (none where it has no fields) -/
def XR (K : PySem.W.Frag) (nm : Nat → Str) (fs : List Nat) (l : List D) (d : Option Addr) (S : AS) (H : Hp) (ms : List Addr) : Prop :=
  (fs = [] ∧ l = [] ∧ d = none) ∨ ∃ a vs, d = some a ∧ H a = some (.xd ((fs.map nm).zip vs)) ∧ fs.length = l.length ∧ RepL K nm S H ms l vs
def RR (K : PySem.W.Frag) (nm : Nat → Str) (H0 : Hp) (S : AS) (H : Hp) (ms : List Addr) (own : Bool) (d : D) (v : V) : Prop := match own with
  | false => Rep K nm S H ms d v
  | true => ∃ p l, d = .lst l ∧ v = .ref p ∧ ¬ S p ∧ p ∉ ms ∧ H0 p = none ∧ ∃ xs, H p = some (.lst xs) ∧ RepL K nm S H ms l xs
def spS (K : PySem.W.Frag) (nm : Nat → Str) (np : Nat) (sem : FSem) : Sp := fun vs H Q E => ∃ S ms ds ob r, SB K nm S H ms ob ∧ RepL K nm S H ms ds vs ∧ ds.length = np ∧ sem ds ob = some r ∧ match r with
  | .ret own d ob' => ∀ v H' S' ms', Fr ⟨S, H, ms, []⟩ S' H' ms' → SB K nm S' H' ms' ob' → RR K nm H S' H' ms' own d v → Q v H'
  | .exc c fs l ob' => ∀ d H' S' ms', Fr ⟨S, H, ms, []⟩ S' H' ms' → SB K nm S' H' ms' ob' → XR K nm fs l d S' H' ms' → E (.ref (He.ga K (nm c))) d H'
theorem spS_imp {np : Nat} {sem sem' : FSem} (h : ∀ ds ob r, ds.length = np → sem' ds ob = some r → sem ds ob = some r) : ∀ vs H Q E, spS K nm np sem' vs H Q E → spS K nm np sem vs H Q E := fun vs H Q E ⟨S, ms, ds, ob, r, h1, h2, h3, h4, h5⟩ => ⟨S, ms, ds, ob, r, h1, h2, h3, h ds ob r h3 h4, h5⟩
end
end Ev
set_option Elab.async false
set_option linter.all false
set_option maxRecDepth 100000
set_option maxHeartbeats 4000000
/-! Ev3: which tree is which text; what a run over data promises of the machine; the operators. -/
namespace Ev
open PySem PySem.Spec L2

/-! ### the tree and the text -/
structure MC where
  N : List Str
  sc : Scope
  nm : Nat → Str
def visB (sc : Scope) (x : Str) : Bool := match sc.names.lookup x with
  | some .local => true
  | some .cell => true
  | some .free => true
  | _ => false
def locB (sc : Scope) (x : Str) : Bool := match sc.names.lookup x with
  | some .local => true
  | some .cell => true
  | _ => false
def glB (sc : Scope) (x : Str) : Bool := match sc.names.lookup x with
  | some .globalImplicit => true
  | _ => false
def okN (x : Str) : Bool := !(x == ("__debug__" : Str)) && !(x == ("__classdict__" : Str))
def b1N : B1 → Str
  | .len => "len" | .abs => "abs" | .int => "int" | .str => "str" | .list => "list" | .sum => "sum" | .all => "all" | .any => "any" | .sorted => "sorted"
def b2N : B2 → Str
  | .max => "max" | .min => "min"
def tyN : Ty → Str
  | .bool => "bool" | .int => "int" | .str => "str" | .list => "list" | .tuple => "tuple"
def bltNs : List Str := ["zip", "len", "abs", "int", "str", "list", "sum", "all", "any", "sorted", "max", "min", "bool", "tuple", "isinstance", "range", "reversed", "enumerate"]
def relS' (scope sc : Scope) : Scope := relS scope sc
def nsup (e : Expr) : Bool := match e with
  | .Call (.Name id _) [] [] _ => id != "super"
  | _ => true
def notSlice (e : Expr) : Bool := match e with
  | .Slice _ _ _ _ => false
  | _ => true
def notSet (e : Expr) : Bool := match e with
  | .Set _ _ _ => false
  | _ => true
def isEnm : ME → Bool
  | .enm _ => true
  | .zip2 _ _ => true
  | _ => false
def isRow : ME → Bool
  | .anil => true
  | .acons _ as => isRow as
  | _ => false
/-- what is left of a chain of and, or -/
def boR (op : BoolOp) (b : Expr) (r : List Expr) (pos : Pos) : Expr := match r with
  | [] => b
  | _ :: _ => .BoolOp op (b :: r) pos
/-- the names of a block's target -/
def mtNsB : List Nat → List Str → Scope → List Expr → Bool
  | [], _, _, z => (match z with
    | [] => true
    | _ => false)
  | i :: is, N, sc, z => (match z with
    | .Name x _ :: ts => decide (N[i]? = some x) && decide (sc.names.lookup x = some .local) && mtNsB is N sc ts
    | _ => false)
def nsOf : List Expr → List Str
  | .Name x _ :: ts => x :: nsOf ts
  | _ => []
/-- does the tree tell the text (a row of one for an expression)? -/
def mt : ME → MC → List Expr → Bool
  | .var i, cx, z => (match z with
    | [.Name x _] => visB cx.sc x && decide (cx.N[i]? = some x) && okN x
    | _ => false)
  | .con c, cx, z => (match z with
    | [.Constant c' _ _] => decide (c = c')
    | _ => false)
  | .glob k, cx, z => (match z with
    | [.Name x _] => glB cx.sc x && decide (x = cx.nm k) && okN x
    | _ => false)
  | .bin op a b, cx, z => (match z with
    | [.BinOp a' op' b' _] => decide (op = op') && mt a cx [a'] && mt b cx [b']
    | _ => false)
  | .neg a, cx, z => (match z with
    | [.UnaryOp .USub a' _] => mt a cx [a']
    | _ => false)
  | .cmp op a b, cx, z => (match z with
    | [.Compare a' [op'] [b'] _] => decide (op = op') && mt a cx [a'] && mt b cx [b'] && !behindInMarks op' b'
    | _ => false)
  | .chain op op2 a b c, cx, z => (match z with
    | [.Compare a' [o1, o2] [b', c'] _] => decide (op = o1) && decide (op2 = o2) && mt a cx [a'] && mt b cx [b'] && mt c cx [c'] && !lastMarks [o1, o2] [b', c']
    | _ => false)
  | .not a, cx, z => (match z with
    | [.UnaryOp .Not a' _] => mt a cx [a']
    | _ => false)
  | .and a b, cx, z => (match z with
    | [.BoolOp .And (a' :: b' :: r) pos] => mt a cx [a'] && mt b cx [boR .And b' r pos]
    | _ => false)
  | .or a b, cx, z => (match z with
    | [.BoolOp .Or (a' :: b' :: r) pos] => mt a cx [a'] && mt b cx [boR .Or b' r pos]
    | _ => false)
  | .ite c a b, cx, z => (match z with
    | [.IfExp c' a' b' _] => mt c cx [c'] && mt a cx [a'] && mt b cx [b']
    | _ => false)
  | .call k es, cx, z => (match z with
    | [.Call (.Name x _) args [] _] => glB cx.sc x && decide (x = cx.nm k) && okN x && isRow es && mt es cx args
    | _ => false)
  | .make k es, cx, z => (match z with
    | [.Call (.Name x _) args [] _] => glB cx.sc x && decide (x = cx.nm k) && okN x && isRow es && mt es cx args
    | _ => false)
  | .meth m o es, cx, z => (match z with
    | [.Call (.Attribute o' x apos) args [] pos] => decide (x = cx.nm m) && mt o cx [o'] && isRow es && mt es cx args && nsup o' && decide (args.length < 20) && (apos.endLine == pos.line)
    | _ => false)
  | .attr f o, cx, z => (match z with
    | [.Attribute o' x _] => decide (x = cx.nm f) && mt o cx [o'] && nsup o'
    | _ => false)
  | .idx a b, cx, z => (match z with
    | [.Subscript a' b' _] => mt a cx [a'] && mt b cx [b'] && notSlice b'
    | _ => false)
  | .slc a lo hi, cx, z => (match z with
    | [.Subscript a' (.Slice lo' hi' none _) _] => mt a cx [a'] && (match lo' with
        | none => isNil lo
        | some l => mt lo cx [l]) && (match hi' with
        | none => isNil hi
        | some l => mt hi cx [l])
    | _ => false)
  | .rev a, cx, z => (match z with
    | [.Subscript a' (.Slice none none (some (.UnaryOp .USub (.Constant (.int 1) _ _) _)) _) _] => mt a cx [a']
    | _ => false)
  | .lst es, cx, z => (match z with
    | [.List es' _] => isRow es && mt es cx es'
    | _ => false)
  | .tup es, cx, z => (match z with
    | [.Tuple es' _ _] => isRow es && mt es cx es'
    | _ => false)
  | .b1 b a, cx, z => (match z with
    | [.Call (.Name x _) [a'] [] _] => glB cx.sc x && decide (x = b1N b) && mt a cx [a']
    | _ => false)
  | .b2 b a c, cx, z => (match z with
    | [.Call (.Name x _) [a', c'] [] _] => glB cx.sc x && decide (x = b2N b) && mt a cx [a'] && mt c cx [c']
    | _ => false)
  | .isi t a, cx, z => (match z with
    | [.Call (.Name x _) [a', .Name y _] [] _] => glB cx.sc x && decide (x = ("isinstance" : Str)) && mt a cx [a'] && glB cx.sc y && decide (y = tyN t)
    | _ => false)
  | .comp e i it c, cx, z => (match z with
    | [.ListComp elt [⟨.Name x _, iter, ifs, 0⟩] scope _] => decide (cx.N[i]? = some x) && mt it cx [iter] && notSet iter && !isEnm it && blkC cx.N cx.sc scope [(x, i)] && decide ((relS scope cx.sc).names.lookup x = some .local) &&
          mt e ⟨cx.N, relS scope cx.sc, cx.nm⟩ [elt] && (match ifs with
          | [] => isNil c
          | [c'] => !isNil c && mt c ⟨cx.N, relS scope cx.sc, cx.nm⟩ [c']
          | _ => false)
    | _ => false)
  | .compt e is it c, cx, z => (match z with
    | [.ListComp elt [⟨.Tuple ts _ _, iter, ifs, 0⟩] scope _] => mt it cx [iter] && notSet iter && blkC cx.N cx.sc scope ((nsOf ts).zip is) && mtNsB is cx.N (relS scope cx.sc) ts &&
          mt e ⟨cx.N, relS scope cx.sc, cx.nm⟩ [elt] && (match ifs with
          | [] => isNil c
          | [c'] => !isNil c && mt c ⟨cx.N, relS scope cx.sc, cx.nm⟩ [c']
          | _ => false)
    | _ => false)
  | .rng1 a, cx, z => (match z with
    | [.Call (.Name x _) [a'] [] _] => glB cx.sc x && decide (x = ("range" : Str)) && mt a cx [a']
    | _ => false)
  | .rng2 a b, cx, z => (match z with
    | [.Call (.Name x _) [a', b'] [] _] => glB cx.sc x && decide (x = ("range" : Str)) && mt a cx [a'] && mt b cx [b']
    | _ => false)
  | .rng3 a b c, cx, z => (match z with
    | [.Call (.Name x _) [a', b', c'] [] _] => glB cx.sc x && decide (x = ("range" : Str)) && mt a cx [a'] && mt b cx [b'] && mt c cx [c']
    | _ => false)
  | .rvs a, cx, z => (match z with
    | [.Call (.Name x _) [a'] [] _] => glB cx.sc x && decide (x = ("reversed" : Str)) && mt a cx [a']
    | _ => false)
  | .rvr1 a, cx, z => (match z with
    | [.Call (.Name x _) [.Call (.Name y _) [a'] [] _] [] _] => glB cx.sc x && decide (x = ("reversed" : Str)) && glB cx.sc y && decide (y = ("range" : Str)) && mt a cx [a']
    | _ => false)
  | .rvr2 a b, cx, z => (match z with
    | [.Call (.Name x _) [.Call (.Name y _) [a', b'] [] _] [] _] => glB cx.sc x && decide (x = ("reversed" : Str)) && glB cx.sc y && decide (y = ("range" : Str)) && mt a cx [a'] && mt b cx [b']
    | _ => false)
  | .enm a, cx, z => (match z with
    | [.Call (.Name x _) [a'] [] _] => glB cx.sc x && decide (x = ("enumerate" : Str)) && mt a cx [a']
    | _ => false)
  | .zip2 a b, cx, z => (match z with
    | [.Call (.Name x _) [a', b'] [] _] => glB cx.sc x && decide (x = ("zip" : Str)) && mt a cx [a'] && mt b cx [b']
    | _ => false)
  | .app i e, cx, z => (match z with
    | [.Call (.Attribute (.Name x _) y apos) [e'] [] pos] => visB cx.sc x && decide (cx.N[i]? = some x) && okN x && decide (y = ("append" : Str)) && mt e cx [e'] && (apos.endLine == pos.line)
    | _ => false)
  | .pop i, cx, z => (match z with
    | [.Call (.Attribute (.Name x _) y apos) [] [] pos] => visB cx.sc x && decide (cx.N[i]? = some x) && okN x && decide (y = ("pop" : Str)) && (apos.endLine == pos.line)
    | _ => false)
  | .anil, cx, z => (match z with
    | [] => true
    | _ => false)
  | .acons e es, cx, z => (match z with
    | e' :: r => mt e cx [e'] && mt es cx r
    | _ => false)
theorem mt_star : ∀ {m : ME} {cx : MC} {a : Expr} {p : Pos}, mt m cx [.Starred a p] = false := by
  intro m
  induction m with
  | acons e es h1 h2 =>
    intro cx a p
    show (mt e cx [.Starred a p] && mt es cx []) = false
    rw [h1]
    rfl
  | _ => intro cx a p; rfl
theorem mt_nostar {m : ME} {cx : MC} {e : Expr} (h : mt m cx [e] = true) : ∀ (es : List Expr) (env : Env), starEach (e :: es) env = (false, eval e env) :: starEach es env := by
  intro es env
  cases e with
  | Starred a p =>
    rw [mt_star] at h
    cases h
  | _ => rfl

/-! ### promises of runs over data -/
def Pst (K : PySem.W.Frag) (nm : Nat → Str) (e : Ent) (W : WX) (σ : St) (S : AS) (H : Hp) (ms : List Addr) {α : Type} (x : Option (O α)) (R : α → Stt → AS → Hp → List Addr → Prop) : Prop := match x with
  | none => False
  | some (.exc c fs l st') => ∀ d S' H' ms', Ext S H ms S' H' ms' → SR K nm e S' H' ms' σ st' → XR K nm fs l d S' H' ms' → W (.ref (He.ga K (nm c))) d σ H'
  | some (.ok a st') => ∀ S' H' ms', Ext S H ms S' H' ms' → SR K nm e S' H' ms' σ st' → R a st' S' H' ms'
section
variable {K : PySem.W.Frag} {nm : Nat → Str} {e : Ent} {W : WX} {σ : St} {S S' : AS} {H H' : Hp} {ms ms' : List Addr} {α β : Type}
theorem Pst.ext {x : Option (O α)} {R : α → Stt → AS → Hp → List Addr → Prop} (h : Pst K nm e W σ S H ms x R) (y : Ext S H ms S' H' ms') : Pst K nm e W σ S' H' ms' x R := by
  match x, h with
  | some (.exc c fs l st'), h => exact fun d S2 H2 ms2 z => h d S2 H2 ms2 (y.trans z)
  | some (.ok a st'), h => exact fun S2 H2 ms2 z => h S2 H2 ms2 (y.trans z)
theorem Pst.bnd {x : Option (O α)} {f : α → Stt → Option (O β)} {R : β → Stt → AS → Hp → List Addr → Prop} (h : Pst K nm e W σ S H ms (Ev.bnd x f) R) :
    Pst K nm e W σ S H ms x fun a st' S' H' ms' => Pst K nm e W σ S' H' ms' (f a st') R := by
  match x, h with
  | some (.exc c fs l st'), h => exact h
  | some (.ok a st'), h => exact fun S2 H2 ms2 z _ => Pst.ext h z
theorem Pst.imp {x : Option (O α)} {R R' : α → Stt → AS → Hp → List Addr → Prop} (h : Pst K nm e W σ S H ms x R) (i : ∀ a st S' H' ms', x = some (.ok a st) → Ext S H ms S' H' ms' → SR K nm e S' H' ms' σ st → R a st S' H' ms' → R' a st S' H' ms') : Pst K nm e W σ S H ms x R' := by
  match x, h with
  | some (.exc c fs l st'), h => exact h
  | some (.ok a st'), h => exact fun S2 H2 ms2 z r => i a st' S2 H2 ms2 rfl z r (h S2 H2 ms2 z r)
theorem Pst.opt {o : Option β} {f : β → Option (O α)} {R : α → Stt → AS → Hp → List Addr → Prop} (h : Pst K nm e W σ S H ms (o.bind f) R) : ∃ b, o = some b ∧ Pst K nm e W σ S H ms (f b) R := by
  cases o with
  | none => exact h.elim
  | some b => exact ⟨b, rfl, h⟩
theorem Pst.val {o : Option α} {s : Stt} {R : α → Stt → AS → Hp → List Addr → Prop} (h : Pst K nm e W σ S H ms (Ev.val o s) R) : ∃ b, o = some b ∧ Pst K nm e W σ S H ms (some (.ok b s)) R := by
  cases o with
  | none => exact h.elim
  | some b => exact ⟨b, rfl, h⟩
theorem Pst.now {a : α} {st : Stt} {R : α → Stt → AS → Hp → List Addr → Prop} (h : Pst K nm e W σ S H ms (some (.ok a st)) R) (r : SR K nm e S H ms σ st) : R a st S H ms := h S H ms .refl r
theorem Pst.iff {c : Prop} [Decidable c] {x y : Option (O α)} {R : α → Stt → AS → Hp → List Addr → Prop} (h : Pst K nm e W σ S H ms (if c then x else y) R) : (c ∧ Pst K nm e W σ S H ms x R) ∨ (¬ c ∧ Pst K nm e W σ S H ms y R) := by
  by_cases hc : c
  · rw [if_pos hc] at h
    exact .inl ⟨hc, h⟩
  · rw [if_neg hc] at h
    exact .inr ⟨hc, h⟩
theorem Pst.ift {c : Prop} [Decidable c] {x : Option (O α)} {R : α → Stt → AS → Hp → List Addr → Prop} (h : Pst K nm e W σ S H ms (if c then x else none) R) : c ∧ Pst K nm e W σ S H ms x R := by
  rcases h.iff with h | ⟨_, h⟩
  · exact h
  · exact h.elim
end

/-! ### the machine, as its weakest promises -/
def WE (X : Cx) (e : Expr) (σ : St) (H : Hp) (Q : VK) : Prop := ∀ (pins : List (Addr × Obj)) (s : Shared), Inv X pins σ H s → wpAny (model X.prog X.w) X.A (eval e X.env) (EP X pins σ Q) X.xe s
def WT (X : Cx) (e : Expr) (σ : St) (H : Hp) (Q : Bool → Hp → Prop) : Prop := ∀ (pins : List (Addr × Obj)) (s : Shared), Inv X pins σ H s → wpAny (model X.prog X.w) X.A (isTrue e X.env (eval e X.env)) (TP X pins σ Q) X.xe s
def WA (X : Cx) (es : List Expr) (σ : St) (H : Hp) (Q : List V → Hp → Prop) : Prop := ∀ (pos : Pos) (pins : List (Addr × Obj)) (s : Shared), Inv X pins σ H s → wpAny (model X.prog X.w) X.A (spliced (backTo pos (starEach es X.env))) (AP X pins σ Q) X.xe s
def WO (X : Cx) (e : Option Expr) (σ : St) (H : Hp) (Q : Option Int → Hp → Prop) : Prop := ∀ (pins : List (Addr × Obj)) (s : Shared), Inv X pins σ H s → wpAny (model X.prog X.w) X.A (evalPart e X.env) (fun u s' => ∃ o H', Inv X pins σ H' s' ∧ IsPart u o ∧ Q o H') X.xe s
def WI (X : Cx) (tg iter : Expr) (σ : St) (H : Hp) (R : It → Hp → Prop) : Prop := ∀ (pins : List (Addr × Obj)) (s : Shared), Inv X pins σ H s → wpAny (model X.prog X.w) X.A (eval iter X.env) (fun v s1 => wpAny (model X.prog X.w) X.A (pyIter v) (PIE X pins σ tg R) X.xe s1) X.xe s
section
variable {X : Cx} {e : Expr} {σ : St} {H : Hp}
theorem peW : PE X e (WE X e) := ⟨fun pins s σ H Q I h => h pins s I⟩
theorem ptW : PT X e (WT X e) := ⟨fun pins s σ H Q I h => h pins s I⟩
theorem paW {es : List Expr} : PA X es (WA X es) := ⟨fun pos pins s σ H Q I h => h pos pins s I⟩
theorem poW {o : Option Expr} : PO X o (WO X o) := ⟨fun pins s σ H Q I h => h pins s I⟩
theorem piW {tg : Expr} : PI X tg e (WI X tg e) := ⟨fun pins s σ H R I h => h pins s I⟩
theorem ofPE {t : TE} {Q : VK} (h : PE X e t) (q : t σ H Q) : WE X e σ H Q := fun pins s I => h.run pins s σ H Q I q
theorem ofPT {t : TT} {Q : Bool → Hp → Prop} (h : PT X e t) (q : t σ H Q) : WT X e σ H Q := fun pins s I => h.run pins s σ H Q I q
theorem ofPO {o : Option Expr} {t : TO} {Q : Option Int → Hp → Prop} (h : PO X o t) (q : t σ H Q) : WO X o σ H Q := fun pins s I => h.run pins s σ H Q I q
theorem ofPI {tg : Expr} {t : TI} {R : It → Hp → Prop} (h : PI X tg e t) (q : t σ H R) : WI X tg e σ H R := fun pins s I => h.run pins s σ H R I q
theorem WE.imp {Q Q' : VK} (h : WE X e σ H Q) (i : ∀ v H', Q v H' → Q' v H') : WE X e σ H Q' := fun pins s I => wpAny_mono (h pins s I) (fun _ _ ⟨v, H', I', r, q⟩ => ⟨v, H', I', r, i v H' q⟩) fun _ _ z => z
end

/-! ### the operators, by one rule each -/
theorem sizeL : sizeLine = 16777216 := sizeLine_eq
section
variable {X : Cx}
theorem op_mulA : OpR X (binaryOp .Mult) (rI IntMulOk fun i j => .int (i * j)) := opI fun _ _ _ _ _ _ _ hc q => PyProof.Rows.mul_int q hc
theorem op_fdivA : OpR X (binaryOp .FloorDiv) (rI (fun i j => j ≠ 0 ∧ Builtin.divisionGoesByPylong i j = false) fun i j => .int (i.fdiv j)) := opI fun _ _ _ _ _ _ _ hc q => PyProof.Rows.floordiv_int hc.1 q (.inl hc.2)
def rNo : R2 := fun _ _ _ _ => False
theorem op_no {f : Value → Value → Sem Value} : OpR X f rNo := fun _ _ _ _ _ _ _ _ _ _ _ _ h => h.elim
def rStrAdd : R2 := fun x y H Q => ∃ i j, x = .str i ∧ y = .str j ∧ i.length + j.length ≤ sizeLine ∧ Q (.str (i ++ j)) H
/-- a op b -/
def rBin : Operator → R2
  | .Add => fun x y H Q => rI0 (fun i j => .int (i + j)) x y H Q ∨ (rStrAdd x y H Q ∨ rCat x y H Q)
  | .Sub => rI0 fun i j => .int (i - j)
  | .Mult => fun x y H Q => rI IntMulOk (fun i j => .int (i * j)) x y H Q ∨ rRep x y H Q
  | .FloorDiv => rI (fun i j => j ≠ 0 ∧ Builtin.divisionGoesByPylong i j = false) fun i j => .int (i.fdiv j)
  | .Mod => rI (fun _ j => j ≠ 0) fun i j => .int (i.fmod j)
  | .Pow => rI CPow fun i j => .int (i ^ j.toNat)
  | _ => rNo
theorem op_bin : ∀ op : Operator, OpR X (binaryOp op) (rBin op)
  | .Add => OpR.or op_add (OpR.or op_add_str op_cat)
  | .Sub => op_sub
  | .Mult => OpR.or op_mulA op_rep
  | .FloorDiv => op_fdivA
  | .Mod => op_modN
  | .Pow => op_pow
  | .MatMult => op_no
  | .Div => op_no
  | .LShift => op_no
  | .RShift => op_no
  | .BitOr => op_no
  | .BitXor => op_no
  | .BitAnd => op_no
end
section
variable {K : PySem.W.Frag} {nm : Nat → Str} {e : Ent} {σ : St} {S : AS} {H : Hp} {ms : List Addr} {st : Stt}
theorem bin_ok {op : Operator} {x y : D} {r : Bool × D} {vx vy : V} {Q : VK} (R : SR K nm e S H ms σ st) (h : binD op x y = some r) (hx : RepW K nm S H ms x vx) (hy : RepW K nm S H ms y vy)
    (q : ∀ v S' H', Ext S H ms S' H' ms → SR K nm e S' H' ms σ st → RV K nm e S' H' ms σ st r v → Q v H') : rBin op vx vy H Q := by
  unfold binD at h
  split at h
  · cases h
    exact .inl ⟨_, _, hx, hy, q _ S H .refl R rfl⟩
  · split at h
    · cases h
      exact .inr (.inl ⟨_, _, hx, hy, by rw [sizeL]; assumption, q _ S H .refl R rfl⟩)
    · cases h
  · split at h
    · rename_i a b hl
      cases h
      obtain ⟨p, xs, e1, h1, r1⟩ := hx
      obtain ⟨p2, ys, e2, h2, r2⟩ := hy
      refine .inr (.inr ⟨p, p2, xs, ys, e1, e2, h1, h2, by rw [sizeL, ← r1.len, ← r2.len]; exact hl, fun l hl => ?_⟩)
      obtain ⟨x', R', O⟩ := R.laidOwn (l := a ++ b) (xs := xs ++ ys) hl (r1.append r2)
      exact q _ _ _ x' R' ⟨l, _, rfl, rfl, O⟩
    · cases h
  · cases h
    exact ⟨_, _, hx, hy, q _ S H .refl R rfl⟩
  · split at h
    · cases h
      exact .inl ⟨_, _, hx, hy, by assumption, q _ S H .refl R rfl⟩
    · cases h
  · split at h
    · rename_i a k hc
      cases h
      obtain ⟨p, xs, e1, h1, r1⟩ := hx
      refine .inr ⟨p, k, xs, e1, hy, h1, hc.1, hc.2.1, by rw [sizeL, ← r1.len]; exact hc.2.2, fun l hl => ?_⟩
      obtain ⟨x', R', O⟩ := R.laidOwn hl (r1.flatten k.toNat)
      exact q _ _ _ x' R' ⟨l, _, rfl, rfl, O⟩
    · cases h
  · split at h
    · cases h
      exact ⟨_, _, hx, hy, by assumption, q _ S H .refl R rfl⟩
    · cases h
  · split at h
    · cases h
      exact ⟨_, _, hx, hy, by assumption, q _ S H .refl R rfl⟩
    · cases h
  · split at h
    · cases h
      exact ⟨_, _, hx, hy, by assumption, q _ S H .refl R rfl⟩
    · cases h
  · cases h
theorem FzL.sq {a : Addr} {xs : List V} (h : FzL K S H a xs) : SqL K H a xs := by
  rcases h with ⟨_, h⟩ | h
  · exact .inl h
  · exact .inr h
theorem TpS.sq {a : Addr} {xs : List V} (h : TpS K S H a xs) : SqT K H a xs := by
  rcases h with ⟨_, h⟩ | h
  · exact .inl h
  · exact .inr h
mutual
theorem Rep.dp : ∀ {d : D} {v : V} {p : PyData}, Rep K nm S H ms d v → toPy d = some p → Dp K H v p
  | .non, v, p, h, e => by
    have h1 : v = .non := h
    cases h1
    cases e
    exact .non
  | .bl b, v, p, h, e => by
    have h1 : v = .bl b := h
    cases h1
    cases e
    exact .bl b
  | .int b, v, p, h, e => by
    have h1 : v = .int b := h
    cases h1
    cases e
    exact .int b
  | .str b, v, p, h, e => by
    have h1 : v = .str b := h
    cases h1
    cases e
    exact .str b
  | .lst l, v, p, h, e => by
    obtain ⟨a, xs, e1, _, h1, r⟩ := h
    subst e1
    have e2 : (toPyL l).map PyData.list = some p := e
    cases q : toPyL l with
    | none =>
      rw [q] at e2
      cases e2
    | some ps =>
      rw [q] at e2
      cases e2
      exact .lst (SqL.of h1) (RepL.dp r q)
  | .flst l, v, p, h, e => by
    obtain ⟨a, xs, e1, h1, r⟩ := h
    subst e1
    have e2 : (toPyL l).map PyData.list = some p := e
    cases q : toPyL l with
    | none =>
      rw [q] at e2
      cases e2
    | some ps =>
      rw [q] at e2
      cases e2
      exact .lst h1.sq (RepL.dp r q)
  | .tup l, v, p, h, e => by
    obtain ⟨a, xs, e1, h1, r⟩ := h
    subst e1
    have e2 : (toPyL l).map PyData.tuple = some p := e
    cases q : toPyL l with
    | none =>
      rw [q] at e2
      cases e2
    | some ps =>
      rw [q] at e2
      cases e2
      exact .tup h1.sq (RepL.dp r q)
  | .ins _ _ _, v, p, h, e => nomatch e
  | .obj _, v, p, h, e => nomatch e
theorem RepL.dp : ∀ {l : List D} {vs : List V} {ps : List PyData}, RepL K nm S H ms l vs → toPyL l = some ps → DpAll K H vs ps
  | [], [], ps, _, e => by
    cases e
    exact .nil
  | [], _ :: _, _, h, _ => h.elim
  | _ :: _, [], _, h, _ => h.elim
  | d :: ds, v :: vs, ps, h, e => by
    have e1 : ((toPy d).bind fun x => (toPyL ds).map (x :: ·)) = some ps := e
    cases q : toPy d with
    | none =>
      rw [q] at e1
      cases e1
    | some x =>
      rw [q] at e1
      have e2 : (toPyL ds).map (x :: ·) = some ps := e1
      cases q2 : toPyL ds with
      | none =>
        rw [q2] at e2
        cases e2
      | some xs =>
        rw [q2] at e2
        cases e2
        exact .cons (Rep.dp h.1 q) (RepL.dp h.2 q2)
end
theorem RepW.dp {d : D} {v : V} {p : PyData} (h : RepW K nm S H ms d v) (e : toPy d = some p) : Dp K H v p := by
  cases d with
  | lst l =>
    obtain ⟨a, xs, e1, h1, r⟩ := h
    subst e1
    have e2 : (toPyL l).map PyData.list = some p := e
    cases q : toPyL l with
    | none =>
      rw [q] at e2
      cases e2
    | some ps =>
      rw [q] at e2
      cases e2
      exact .lst (SqL.of h1) (RepL.dp r q)
  | _ => exact Rep.dp h e
theorem RepW.ref {d : D} {v : V} (h : RepW K nm S H ms d v) (hd : match d with | .non => False | .bl _ => False | .int _ => False | .str _ => False | _ => True) : ∃ a, v = .ref a := by
  cases d with
  | lst l => obtain ⟨a, xs, e1, _⟩ := h; exact ⟨a, e1⟩
  | flst l => obtain ⟨a, xs, e1, _⟩ := h; exact ⟨a, e1⟩
  | tup l => obtain ⟨a, xs, e1, _⟩ := h; exact ⟨a, e1⟩
  | ins c fs l => obtain ⟨a, xs, vs, e1, _⟩ := h; exact ⟨a, e1⟩
  | obj n => obtain ⟨a, e1, _⟩ := h; exact ⟨a, e1⟩
  | _ => exact hd.elim
theorem flat_of {d : D} {v : V} (h : RepW K nm S H ms d v) (f : flatD d = true) : v = fltV d ∧ flatV v = true := by
  cases d with
  | non => cases (show v = .non from h); exact ⟨rfl, rfl⟩
  | bl b => cases (show v = .bl b from h); exact ⟨rfl, rfl⟩
  | int b => cases (show v = .int b from h); exact ⟨rfl, rfl⟩
  | str b => cases (show v = .str b from h); exact ⟨rfl, rfl⟩
  | _ => cases f
theorem flat_all : ∀ {l : List D} {vs : List V}, RepL K nm S H ms l vs → l.all flatD = true → vs = l.map fltV ∧ vs.all flatV = true
  | [], [], _, _ => ⟨rfl, rfl⟩
  | [], _ :: _, h, _ => h.elim
  | _ :: _, [], h, _ => h.elim
  | d :: ds, v :: vs, h, f => by
    rw [List.all_cons, Bool.and_eq_true] at f
    obtain ⟨e1, f1⟩ := flat_of (Rep.w h.1) f.1
    obtain ⟨e2, f2⟩ := flat_all (l := ds) (vs := vs) h.2 f.2
    subst e1
    rw [e2]
    rw [e2] at f2
    exact ⟨rfl, by rw [List.all_cons, f1, f2]; rfl⟩

/-! ### truth, places, parts -/
theorem tru_ok {d : D} {v : V} {k : Bool} (h : truD d = some k) (r : RepW K nm S H ms d v) : TruV K v H k := by
  cases d with
  | non => cases (show v = .non from r); cases h; rfl
  | bl b => cases (show v = .bl b from r); cases h; rfl
  | int b => cases (show v = .int b from r); cases h; rfl
  | str b =>
    cases (show v = .str b from r)
    have h : (if b.length ≤ 16777216 then some ((b.length : Int) != 0) else none) = some k := h
    split at h
    · cases h
      exact ⟨by rw [sizeL]; assumption, rfl⟩
    · cases h
  | lst l =>
    obtain ⟨a, xs, e1, h1, r⟩ := r
    subst e1
    cases h
    refine .inl ⟨xs, SqL.of h1, ?_⟩
    have := r.len
    cases l <;> cases xs <;> simp_all
  | flst l =>
    obtain ⟨a, xs, e1, h1, r⟩ := r
    subst e1
    cases h
    refine .inl ⟨xs, h1.sq, ?_⟩
    have := r.len
    cases l <;> cases xs <;> simp_all
  | tup l =>
    obtain ⟨a, xs, e1, h1, r⟩ := r
    subst e1
    cases h
    refine .inr (.inl ⟨xs, h1.sq, ?_⟩)
    have := r.len
    cases l <;> cases xs <;> simp_all
  | _ => cases h
theorem RepL.atI {l : List D} {vs : List V} {i : Int} {d : D} (r : RepL K nm S H ms l vs) (h : atI l i = some d) : ∃ v, L2.atI vs i = some v ∧ Rep K nm S H ms d v := by
  unfold L2.atI at h ⊢
  rw [← r.len]
  cases q : ixN l.length i with
  | none =>
    rw [q] at h
    cases h
  | some j =>
    rw [q] at h
    exact r.get h
theorem idx_ok {x y d : D} {vx vy : V} {Q : VK} (h : idxD x y = some d) (hx : RepW K nm S H ms x vx) (hy : RepW K nm S H ms y vy) (q : ∀ v, Rep K nm S H ms d v → Q v H) : rIx K vx vy H Q := by
  unfold idxD at h
  split at h
  · obtain ⟨a, xs, e1, h1, r⟩ := hx
    obtain ⟨v, h2, h3⟩ := r.atI h
    exact .inl ⟨a, xs, _, v, e1, hy, SqL.of h1, h2, q v h3⟩
  · obtain ⟨a, xs, e1, h1, r⟩ := hx
    obtain ⟨v, h2, h3⟩ := r.atI h
    exact .inl ⟨a, xs, _, v, e1, hy, h1.sq, h2, q v h3⟩
  · obtain ⟨a, xs, e1, h1, r⟩ := hx
    obtain ⟨v, h2, h3⟩ := r.atI h
    exact .inr (.inl ⟨a, xs, _, v, e1, hy, h1.sq, h2, q v h3⟩)
  · rename_i z i
    split at h
    · rename_i hz
      cases q2 : L2.atI z.cps.toList i with
      | none =>
        rw [q2] at h
        cases h
      | some c =>
        rw [q2] at h
        cases h
        exact .inr (.inr ⟨z, i, c, hx, hy, by rw [sizeL]; exact hz, q2, q _ rfl⟩)
    · cases h
  · cases h
def rSl (K : PySem.W.Frag) : V → Option Int → Option Int → Hp → VK → Prop := fun x lo hi H Q => rSlL K x lo hi H Q ∨ (rSlS x lo hi H Q ∨ rSlT K x lo hi H Q)
theorem sl_any {X : Cx} : SlR X (rSl X.K) := sl_list.or (sl_str.or sl_tup)
theorem RepL.cut {l : List D} {vs : List V} (lo hi : Option Int) (r : RepL K nm S H ms l vs) : RepL K nm S H ms (Ev.cut l lo hi) (cutV vs lo hi) := by
  unfold Ev.cut cutV
  rw [r.len]
  exact (r.drop _).take _
theorem slc_ok {x : D} {lo hi : Option Int} {r : Bool × D} {vx : V} {Q : VK} (R : SR K nm e S H ms σ st) (h : slcD x lo hi = some r) (hx : RepW K nm S H ms x vx)
    (q : ∀ v S' H', Ext S H ms S' H' ms → SR K nm e S' H' ms σ st → RV K nm e S' H' ms σ st r v → Q v H') : rSl K vx lo hi H Q := by
  unfold slcD at h
  split at h
  · cases h
    obtain ⟨a, xs, e1, h1, r⟩ := hx
    refine .inl ⟨a, xs, e1, SqL.of h1, fun p hp => ?_⟩
    obtain ⟨x', R', O⟩ := R.laidOwn hp (r.cut lo hi)
    exact q _ _ _ x' R' ⟨p, _, rfl, rfl, O⟩
  · cases h
    obtain ⟨a, xs, e1, h1, r⟩ := hx
    refine .inl ⟨a, xs, e1, h1.sq, fun p hp => ?_⟩
    obtain ⟨x', R', O⟩ := R.laidOwn hp (r.cut lo hi)
    exact q _ _ _ x' R' ⟨p, _, rfl, rfl, O⟩
  · split at h
    · cases h
    · rename_i hw
      cases h
      obtain ⟨a, xs, e1, h1, r⟩ := hx
      refine .inr (.inr ⟨a, xs, e1, h1.sq, by rw [← r.len]; exact hw, fun p hp => ?_⟩)
      obtain ⟨x', R'⟩ := R.laidS (o := .tup (cutV xs lo hi)) hp
      exact q _ _ _ x' R' ⟨p, _, rfl, .inl ⟨.inr rfl, Rd.of upd_same⟩, (r.cut lo hi).ext x'⟩
  · split at h
    · rename_i hz
      cases h
      exact .inr (.inl ⟨_, hx, by rw [sizeL]; exact hz, q _ S H .refl R rfl⟩)
    · cases h
  · cases h
theorem RepW.list {x : D} {l : List D} {vx : V} (hx : RepW K nm S H ms x vx) (h : x = .lst l ∨ x = .flst l) : ∃ a xs, vx = .ref a ∧ SqL K H a xs ∧ RepL K nm S H ms l xs := by
  rcases h with rfl | rfl
  · obtain ⟨a, xs, e1, h1, r⟩ := hx
    exact ⟨a, xs, e1, SqL.of h1, r⟩
  · obtain ⟨a, xs, e1, h1, r⟩ := hx
    exact ⟨a, xs, e1, h1.sq, r⟩
/-! ### comparisons -/
def rCmp (K : PySem.W.Frag) : CmpOp → R2
  | .Eq => fun x y H Q => rEq x y H Q ∨ rEqD K x y H Q
  | .NotEq => fun x y H Q => rNe x y H Q ∨ rNeD K x y H Q
  | .Lt => rI0 fun i j => .bl (decide (i < j))
  | .LtE => rI0 fun i j => .bl (decide (i ≤ j))
  | .Gt => rI0 fun i j => .bl (decide (j < i))
  | .GtE => rI0 fun i j => .bl (decide (j ≤ i))
  | .Is => fun x y H Q => rIsB x y H Q ∨ (y = .non ∧ Q (.bl (decide (x = .non))) H)
  | .IsNot => fun x y H Q => rNotB x y H Q ∨ (y = .non ∧ Q (.bl (!decide (x = .non))) H)
  | .In => fun x y H Q => (∃ i j, x = .str i ∧ y = .str j ∧ Q (.bl (!(Builtin.Str.occurrences j i 0 j.length 1).isEmpty)) H) ∨ (rIn K false x y H Q ∨ rInD K x y H Q)
  | .NotIn => fun x y H Q => (∃ i j, x = .str i ∧ y = .str j ∧ Q (.bl (!(!(Builtin.Str.occurrences j i 0 j.length 1).isEmpty))) H) ∨ (rIn K true x y H Q ∨ rNotInD K x y H Q)
theorem op_cmp {X : Cx} (hu : X.A.units + 65 < cLine) : ∀ op : CmpOp, OpR X (compareOp op) (rCmp X.K op)
  | .Eq => OpR.or op_eq (op_eqD (by omega))
  | .NotEq => OpR.or op_ne (op_neD (by omega))
  | .Lt => op_lt
  | .LtE => op_le
  | .Gt => op_gt
  | .GtE => op_ge
  | .Is => OpR.or op_isBl op_isN
  | .IsNot => OpR.or op_notBl op_notN
  | .In => OpR.or op_in_str (OpR.or op_in_seq (op_inD hu))
  | .NotIn => OpR.or op_notin_str (OpR.or op_notIn_seq (op_notInD hu))
theorem eq_ok {x y : D} {vx vy : V} {b : Bool} (h : eqD x y = some b) (hx : RepW K nm S H ms x vx) (hy : RepW K nm S H ms y vy) :
    (scal vx vy = true ∧ decide (vx = vy) = b) ∨ ∃ d e, Dp K H vx d ∧ Dp K H vy e ∧ SeqAt.shaped d = true ∧ SeqAt.shaped e = true ∧ PyData.eqv d e = b := by
  unfold eqD at h
  split at h
  case h_15 =>
    cases q1 : toPy x with
    | none =>
      rw [q1] at h
      cases h
    | some p =>
      rw [q1] at h
      cases q2 : toPy y with
      | none =>
        rw [q2] at h
        cases h
      | some p2 =>
        rw [q2] at h
        have h : (if SeqAt.shaped p = true ∧ SeqAt.shaped p2 = true then some (PyData.eqv p p2) else none) = some b := h
        split at h
        · rename_i hs
          cases h
          exact .inr ⟨p, p2, hx.dp q1, hy.dp q2, hs.1, hs.2, rfl⟩
        · cases h
  all_goals
    cases h
    have h1 := (flat_of hx rfl).1
    have h2 := (flat_of hy rfl).1
    subst h1 h2
    refine .inl ⟨rfl, ?_⟩
    simp [fltV]
theorem in_ok {x : D} {l : List D} {vx : V} {xs : List V} {b : Bool} (h : inD x l = some b) (hx : RepW K nm S H ms x vx) (r : RepL K nm S H ms l xs) : flatV vx = true ∧ xs.all flatV = true ∧ inV vx xs = b := by
  unfold inD at h
  split at h
  · rename_i hf
    cases h
    obtain ⟨e1, f1⟩ := flat_of hx hf.1
    obtain ⟨e2, f2⟩ := flat_all r hf.2
    exact ⟨f1, f2, by rw [e1, e2]⟩
  · cases h
theorem inL_ok {x : D} {l : List D} {vx : V} {xs : List V} {a : Addr} {b : Bool} (h : inL x l = some b) (hx : RepW K nm S H ms x vx) (ha : H a = some (.lst xs)) (r : RepL K nm S H ms l xs) : (flatV vx = true ∧ xs.all flatV = true ∧ inV vx xs = b) ∨ ∃ d ds, Dp K H vx d ∧ Dp K H (.ref a) (.list ds) ∧ SeqAt.shaped d = true ∧ SeqAt.shaped (.list ds) = true ∧ (ds.any fun z => PyData.eqv z d) = b := by
  unfold inL at h
  split at h
  · rename_i b' hb
    cases h
    exact .inl (in_ok hb hx r)
  · cases q1 : toPy x with
    | none =>
      rw [q1] at h
      cases h
    | some p =>
      rw [q1] at h
      cases q2 : toPyL l with
      | none =>
        rw [q2] at h
        cases h
      | some p2 =>
        rw [q2] at h
        have h : (if SeqAt.shaped p = true ∧ SeqAt.shaped (.list p2) = true then some (p2.any fun z => PyData.eqv z p) else none) = some b := h
        split at h
        · rename_i hs
          cases h
          have q3 : toPy (.lst l) = some (.list p2) := by
            show (toPyL l).map PyData.list = _
            rw [q2]
            rfl
          have w : RepW K nm S H ms (.lst l) (.ref a) := ⟨a, xs, rfl, ha, r⟩
          exact .inr ⟨p, p2, hx.dp q1, w.dp q3, hs.1, hs.2, rfl⟩
        · cases h
theorem isn_ok {x : D} {vx : V} (hx : RepW K nm S H ms x vx) : decide (vx = .non) = isNonD x := by
  cases x with
  | non => cases (show vx = .non from hx); rfl
  | bl b => cases (show vx = .bl b from hx); rfl
  | int b => cases (show vx = .int b from hx); rfl
  | str b => cases (show vx = .str b from hx); rfl
  | _ =>
    obtain ⟨a, rfl⟩ := hx.ref trivial
    rfl
theorem cmp_ok {op : CmpOp} {x y : D} {vx vy : V} {b : Bool} {Q : VK} (h : cmpD op x y = some b) (hx : RepW K nm S H ms x vx) (hy : RepW K nm S H ms y vy) (q : Q (.bl b) H) : rCmp K op vx vy H Q := by
  unfold cmpD at h
  split at h
  · cases h; exact ⟨_, _, hx, hy, q⟩
  · cases h; exact ⟨_, _, hx, hy, q⟩
  · cases h; exact ⟨_, _, hx, hy, q⟩
  · cases h; exact ⟨_, _, hx, hy, q⟩
  · rcases eq_ok h hx hy with ⟨h1, h2⟩ | ⟨d, e, h1, h2, h3, h4, h5⟩
    · exact .inl ⟨h1, by rw [h2]; exact q⟩
    · exact .inr ⟨d, e, h1, h2, h3, h4, by rw [h5]; exact q⟩
  · obtain ⟨c, q1, e⟩ := Option.map_eq_some_iff.mp h
    subst e
    rcases eq_ok q1 hx hy with ⟨h1, h2⟩ | ⟨d, e, h1, h2, h3, h4, h5⟩
    · exact .inl ⟨h1, by rw [h2]; exact q⟩
    · exact .inr ⟨d, e, h1, h2, h3, h4, by rw [h5]; exact q⟩
  · cases h; exact .inl ⟨_, _, hx, hy, q⟩
  · cases h; exact .inl ⟨_, _, hx, hy, q⟩
  · cases h
    exact .inr ⟨hy, by rw [isn_ok hx]; exact q⟩
  · cases h
    exact .inr ⟨hy, by rw [isn_ok hx]; exact q⟩
  · cases h; exact .inl ⟨_, _, hx, hy, q⟩
  · cases h; exact .inl ⟨_, _, hx, hy, q⟩
  · obtain ⟨a, xs, e1, h1, r⟩ := hy
    rcases inL_ok h hx h1 r with ⟨f1, f2, f3⟩ | ⟨d, ds, f1, f2, f3, f4, f5⟩
    · exact .inr (.inl ⟨a, xs, e1, .inl (SqL.of h1), f1, f2, by rw [f3]; exact q⟩)
    · exact .inr (.inr ⟨d, ds, f1, by rw [e1]; exact f2, f3, f4, by rw [f5]; exact q⟩)
  · obtain ⟨a, xs, e1, h1, r⟩ := hy
    obtain ⟨f1, f2, f3⟩ := in_ok h hx r
    exact .inr (.inl ⟨a, xs, e1, .inr h1.sq, f1, f2, by rw [f3]; exact q⟩)
  · obtain ⟨c, q1, e⟩ := Option.map_eq_some_iff.mp h
    subst e
    obtain ⟨a, xs, e1, h1, r⟩ := hy
    rcases inL_ok q1 hx h1 r with ⟨f1, f2, f3⟩ | ⟨d, ds, f1, f2, f3, f4, f5⟩
    · exact .inr (.inl ⟨a, xs, e1, .inl (SqL.of h1), f1, f2, by rw [f3]; exact q⟩)
    · exact .inr (.inr ⟨d, ds, f1, by rw [e1]; exact f2, f3, f4, by rw [f5]; exact q⟩)
  · obtain ⟨c, q1, e⟩ := Option.map_eq_some_iff.mp h
    subst e
    obtain ⟨a, xs, e1, h1, r⟩ := hy
    obtain ⟨f1, f2, f3⟩ := in_ok q1 hx r
    exact .inr (.inl ⟨a, xs, e1, .inr h1.sq, f1, f2, by rw [f3]; exact q⟩)
  · cases h
end
end Ev
set_option Elab.async false
set_option linter.all false
set_option maxRecDepth 100000
set_option maxHeartbeats 4000000
/-! Ev4: expressions: what the run over data says, the machine does. -/
namespace Ev
open PySem PySem.Spec L2

/-! ### syntax -/
theorem base_ok {o : Expr} {attr : Str} {env : Env} {w : PySem.Sem Value} (h : nsup o = true) : attributeBase o attr env w = w := by
  unfold attributeBase
  split
  · have h1 : ((_ : Str) != "super") = true := h
    rw [h1]
    simp
  · rfl
theorem plain_args : ∀ {es : ME} {cx : MC} {args : List Expr} {env : Env} (pos : Pos), isRow es = true → mt es cx args = true → (backTo pos (starEach args env)).any (·.1) = false ∧ (backTo pos (starEach args env)).all (fun x => !x.1) = true := by
  intro es
  induction es with
  | anil =>
    intro cx args env pos _ h
    cases args with
    | nil => exact ⟨rfl, rfl⟩
    | cons e r => cases h
  | acons a as _ ih =>
    intro cx args env pos hr h
    cases args with
    | nil => cases h
    | cons e r =>
      have h1 : (mt a cx [e] && mt as cx r) = true := h
      rw [Bool.and_eq_true] at h1
      obtain ⟨i1, i2⟩ := ih (env := env) pos hr h1.2
      rw [mt_nostar h1.1]
      refine ⟨?_, ?_⟩
      · show (false || (backTo pos (starEach r env)).any (·.1)) = false
        rw [i1]
        rfl
      · show (true && (backTo pos (starEach r env)).all (fun x => !x.1)) = true
        rw [i2]
        rfl
  | _ => intro cx args env pos hr; cases hr
theorem meth_eval {o : Expr} {m : Str} {apos pos : Pos} {args : List Expr} {env : Env} (hb : nsup o = true) (hl : (apos.endLine == pos.line) = true) (hn : decide (args.length < 20) = true)
    (ha : (backTo pos (starEach args env)).all (fun x => !x.1) = true) : eval (.Call (.Attribute o m apos) args [] pos) env = (do
      let ov ← eval o env
      standAt apos.atName
      let (f, first) ← holding [ov] (getMethod ov m (plainOf o env))
      callWith pos f first (backTo pos (starEach args env)) (backToKw pos (keywordEach [] env))) := by
  have hf : methodCallForm (args.length + ([] : List Keyword).length) (backTo pos (starEach args env)) (backToKw pos (keywordEach [] env)) = true := by
    unfold methodCallForm
    rw [ha]
    have h2 : args.length < 20 := of_decide_eq_true hn
    have h3 : (backToKw pos (keywordEach [] env)) = [] := rfl
    rw [h3]
    simp only [List.all_nil, Bool.and_true, Bool.true_and, List.isEmpty_nil, if_true]
    exact decide_eq_true (by simp only [List.length_nil]; omega)
  show (do
    let ov ← attributeBase o m env (eval o env)
    standAt apos.atName
    methodCall o m apos pos env ov (args.length + ([] : List Keyword).length) (backTo pos (starEach args env)) (backToKw pos (keywordEach [] env))) = _
  rw [base_ok hb]
  simp only [mcall_line hf hl]

/-! ### what the table promises -/
section
variable (P : Program) (w : World) (K : PySem.W.Frag) (mg : Str → Option Value) (base : Heap) (k : Nat)
def Callee (nm : Nat → Str) (sem : FSem) (At : Addr → Prop) : Prop := ∃ (f : Addr) (fd : FuncData) (ps : List Str) (sem0 : FSem), FnOk P w K mg base (L2.CX P w) k f fd ps (spS K nm ps.length sem0) ∧ At f ∧
  ∀ ds ob r, sem ds ob = some r → ∃ (dd : List D) (dvs : List V) (dv : List Value), (∀ S H ms, RepL K nm S H ms dd dvs) ∧ Vals dvs dv ∧ Binds K fd ps dv ∧ (ds ++ dd).length = ps.length ∧ sem0 (ds ++ dd) ob = some r
structure GOk (G : Tab) : Prop where
  blt : ∀ x, x ∈ bltNs → mg x = none
  inj : ∀ i j, G.nm i = G.nm j → i = j
  fn : ∀ i sem, G.fn i = some sem → Callee P w K mg base k G.nm sem fun f => mg (G.nm i) = some (.ref f) ∧ PySem.W.keepIn K (.ref f) = true
  mth : ∀ c m sem, G.mth c m = some sem → Cls K (He.ga K (G.nm c)) ∧ Callee P w K mg base k G.nm sem fun f => Meth K (He.ga K (G.nm c)) (G.nm m) f
  mks : ∀ c sem, G.mks c = some sem → mg (G.nm c) = some (.ref (He.ga K (G.nm c))) ∧ ∃ init, (sem = mkF c init ∨ sem = mkM c init) ∧ Callee P w K mg base k G.nm init fun f => Mk K (He.ga K (G.nm c)) f
  att : ∀ c f, G.att c f = true → Cls K (He.ga K (G.nm c)) ∧ NoAttr K (He.ga K (G.nm c)) (G.nm f)
  cst : ∀ i d, G.cst i = some d → ∃ u v, mg (G.nm i) = some u ∧ RelV v u ∧ ∀ S H ms, Rep K G.nm S H ms d v
end
structure XOk (G : Tab) (k : Nat) (X : Cx) (cx : MC) (W : WX) : Prop where
  nm : cx.nm = G.nm
  hN : X.N = cx.N
  nd : X.N.Nodup
  sc : X.env.scope = cx.sc
  calm : X.calm = true
  tk : Takes X W
  room : Room (k + 1) X.A
  g : GOk X.prog X.w X.K X.mg X.base k G
section
variable {G : Tab} {k : Nat} {X : Cx} {cx : MC} {W : WX}
theorem XOk.hu (ok : XOk G k X cx W) : X.A.units + 64 < cLine := ok.room.units
theorem XOk.hu5 (ok : XOk G k X cx W) : X.A.units + 65 < cLine := by have := ok.room.un; omega
theorem XOk.slot (ok : XOk G k X cx W) {i : Nat} {x : Str} (h : decide (cx.N[i]? = some x) = true) : X.N[i]? = some x := by
  rw [ok.hN]
  exact of_decide_eq_true h
theorem XOk.vis (ok : XOk G k X cx W) {x : Str} (h : visB cx.sc x = true) : Vis X.env.scope x := by
  rw [ok.sc]
  unfold visB at h
  split at h
  · rename_i e; exact .inl e
  · rename_i e; exact .inr (.inl e)
  · rename_i e; exact .inr (.inr e)
  · cases h
theorem XOk.gl (ok : XOk G k X cx W) {x : Str} (h : glB cx.sc x = true) : Gl X x := by
  unfold glB at h
  split at h
  · rename_i e
    show X.env.scope.names.lookup x = some .globalImplicit
    rw [ok.sc]
    exact e
  · cases h
theorem okN_1 {x : Str} (h : okN x = true) : (x == ("__debug__" : Str)) = false ∧ (x == ("__classdict__" : Str)) = false := by
  unfold okN at h
  rw [Bool.and_eq_true] at h
  exact ⟨by simpa using h.1, by simpa using h.2⟩
theorem and3 {a b c : Bool} (h : (a && b && c) = true) : a = true ∧ b = true ∧ c = true := by
  rw [Bool.and_eq_true, Bool.and_eq_true] at h
  exact ⟨h.1.1, h.1.2, h.2⟩
theorem and2 {a b : Bool} (h : (a && b) = true) : a = true ∧ b = true := Bool.and_eq_true_iff.mp h
end

/-! ### what is to be shown of a tree -/
def SndE (G : Tab) (m : ME) : Prop := ∀ {k : Nat} {X : Cx} {cx : MC} {W : WX}, XOk G k X cx W → ∀ {e' : Expr}, mt m cx [e'] = true → ∀ {en : Ent} {S : AS} {H : Hp} {ms : List Addr} {σ : L2.St} {st : Stt} {Q : VK}, SR X.K G.nm en S H ms σ st →
  Pst X.K G.nm en W σ S H ms ((ev G m).E st) (fun r st' S' H' ms' => ∀ v, RV X.K G.nm en S' H' ms' σ st' r v → Q v H') → WE X e' σ H Q
def SndT (G : Tab) (m : ME) : Prop := ∀ {k : Nat} {X : Cx} {cx : MC} {W : WX}, XOk G k X cx W → ∀ {e' : Expr}, mt m cx [e'] = true → ∀ {en : Ent} {S : AS} {H : Hp} {ms : List Addr} {σ : L2.St} {st : Stt} {Q : Bool → Hp → Prop}, SR X.K G.nm en S H ms σ st →
  Pst X.K G.nm en W σ S H ms ((ev G m).T st) (fun b st' S' H' ms' => Q b H') → WT X e' σ H Q
def SndA (G : Tab) (m : ME) : Prop := ∀ {k : Nat} {X : Cx} {cx : MC} {W : WX}, XOk G k X cx W → ∀ {es : List Expr}, mt m cx es = true → ∀ {en : Ent} {S : AS} {H : Hp} {ms : List Addr} {σ : L2.St} {st : Stt} {Q : List V → Hp → Prop}, SR X.K G.nm en S H ms σ st →
  Pst X.K G.nm en W σ S H ms ((ev G m).A st) (fun ds st' S' H' ms' => ∀ vs, RepL X.K G.nm S' H' ms' ds vs → Q vs H') → WA X es σ H Q
/-- the turns of J are these things -/
def Walks (K : PySem.W.Frag) (nm : Nat → Str) (J : It) (ds : List D) (S : AS) (H : Hp) (ms : List Addr) : Prop := ∀ S' H' ms', Ext S H ms S' H' ms' →
  (∀ (i : Nat) (d : D), ds[i]? = some d → J.go i H' ∧ ∀ x H'', J.yld i H' x H'' → ∀ en σ st, SR K nm en S' H' ms' σ st → ∃ S'', Ext S' H' ms' S'' H'' ms' ∧ SR K nm en S'' H'' ms' σ st ∧ Rep K nm S'' H'' ms' d x) ∧ J.stop ds.length H'
def isTup (e : Expr) : Prop := ∃ elts kk p, e = .Tuple elts kk p
def SndI (G : Tab) (m : ME) : Prop := ∀ {k : Nat} {X : Cx} {cx : MC} {W : WX}, XOk G k X cx W → ∀ {e' tg : Expr}, mt m cx [e'] = true → (isEnm m = true → isTup tg) → ∀ {en : Ent} {S : AS} {H : Hp} {ms : List Addr} {σ : L2.St} {st : Stt} {R : It → Hp → Prop}, SR X.K G.nm en S H ms σ st →
  Pst X.K G.nm en W σ S H ms ((ev G m).I st) (fun ds st' S' H' ms' => ∀ J, Walks X.K G.nm J ds S' H' ms' → R J H') → WI X tg e' σ H R
structure Snd (G : Tab) (m : ME) : Prop where
  E : SndE G m
  T : SndT G m
  A : SndA G m
  I : SndI G m

section
variable {G : Tab} {k : Nat} {X : Cx} {cx : MC} {W : WX} {en : Ent} {S : AS} {H : Hp} {ms : List Addr} {σ : L2.St} {st : Stt}
/-! ### names, operands -/
theorem name_ok {m : ME} {i : Nat} (hv : isVar m = some i) {e' : Expr} (ok : XOk G k X cx W) (h : mt m cx [e'] = true) : PE X e' (tVar i) ∧ ∀ whole, isTrue e' X.env whole = (do let v ← whole; standAt e'.pos; holding [v] (truthy v)) := by
  cases m with
  | var j =>
    cases hv
    cases e' with
    | Name x pos =>
      obtain ⟨h1, h2, h3⟩ := and3 (show (visB cx.sc x && decide (cx.N[i]? = some x) && okN x) = true from h)
      exact ⟨pe_var (ok.slot h2) (ok.vis h1) (okN_1 h3).1 (okN_1 h3).2, fun _ => rfl⟩
    | _ => cases h
  | _ => cases hv
/-- how an operand stands till it is used -/
def Late (K : PySem.W.Frag) (nm : Nat → Str) (σ : L2.St) (a : ME) (r : Option D) (v : V) (S : AS) (H : Hp) (ms : List Addr) : Prop :=
  (∃ d, r = some d ∧ Rep K nm S H ms d v) ∨ (r = none ∧ ∃ i, isVar a = some i ∧ σ[i]? = some (some v))
theorem Late.ext {K : PySem.W.Frag} {nm : Nat → Str} {a : ME} {r : Option D} {v : V} {S' : AS} {H' : Hp} {ms' : List Addr} (h : Late K nm σ a r v S H ms) (x : Ext S H ms S' H' ms') : Late K nm σ a r v S' H' ms' := by
  rcases h with ⟨d, e, h⟩ | h
  · exact .inl ⟨d, e, h.ext x⟩
  · exact .inr h
theorem Late.w {K : PySem.W.Frag} {nm : Nat → Str} {a : ME} {r : Option D} {v : V} {d : D} (h : Late K nm σ a r v S H ms) (R : SR K nm en S H ms σ st) (l : late a r st = some d) : RepW K nm S H ms d v := by
  rcases h with ⟨d', rfl, h⟩ | ⟨rfl, i, hi, hs⟩
  · cases l
    exact h.w
  · have l : (match isVar a with | some i => peek i st | none => none) = some d := l
    rw [hi] at l
    obtain ⟨u, h1, h2⟩ := R.peekW l
    rw [hs] at h1
    cases h1
    exact h2
theorem opnd_ok {a : ME} (hA : SndE G a) (ok : XOk G k X cx W) {a' : Expr} (ha : mt a cx [a'] = true) (R : SR X.K G.nm en S H ms σ st) {β : Type} {F : Option D → Stt → Option (O β)} {Rb : β → Stt → AS → Hp → List Addr → Prop} {T : VK}
    (h : Pst X.K G.nm en W σ S H ms (bnd (opnd a (ev G a).E st) F) Rb)
    (hT : ∀ r v st1 S1 H1 ms1, Ext S H ms S1 H1 ms1 → SR X.K G.nm en S1 H1 ms1 σ st1 → Late X.K G.nm σ a r v S1 H1 ms1 → Pst X.K G.nm en W σ S1 H1 ms1 (F r st1) Rb → T v H1) : WE X a' σ H T := by
  cases hv : isVar a with
  | some i =>
    have e1 : opnd a (ev G a).E st = (peek i st).bind fun _ => some (.ok none st) := by
      unfold opnd
      rw [hv]
    rw [e1] at h
    cases hp : peek i st with
    | none =>
      rw [hp] at h
      exact h.elim
    | some d =>
      rw [hp] at h
      have h : Pst X.K G.nm en W σ S H ms (F none st) Rb := h
      obtain ⟨v, h1, h2⟩ := R.peekW hp
      exact ofPE (name_ok hv ok ha).1 ⟨v, h1, hT none v st S H ms .refl R (.inr ⟨rfl, i, hv, h1⟩) h⟩
  | none =>
    have e1 : opnd a (ev G a).E st = bnd ((ev G a).E st) fun r s1 => some (.ok (some r.2) s1) := by
      unfold opnd
      rw [hv]
    rw [e1] at h
    refine hA ok ha R (h.bnd.bnd.imp fun r st1 S1 H1 ms1 _ x1 R1 h1 v hr => ?_)
    obtain ⟨S2, x2, R2, r2⟩ := R1.shared hr
    have h2 := (Pst.now h1 R1).ext x2
    exact hT (some r.2) v st1 S2 H1 ms1 (x1.trans x2) R2 (.inl ⟨r.2, rfl, r2⟩) h2
/-- a value handed on, as a thing that all may have -/
theorem shE {a : ME} (hA : SndE G a) (ok : XOk G k X cx W) {a' : Expr} (ha : mt a cx [a'] = true) (R : SR X.K G.nm en S H ms σ st) {β : Type} {F : Bool × D → Stt → Option (O β)} {Rb : β → Stt → AS → Hp → List Addr → Prop} {T : VK}
    (h : Pst X.K G.nm en W σ S H ms (bnd ((ev G a).E st) F) Rb)
    (hT : ∀ r v st1 S1 H1 ms1, Ext S H ms S1 H1 ms1 → SR X.K G.nm en S1 H1 ms1 σ st1 → Rep X.K G.nm S1 H1 ms1 r.2 v → Pst X.K G.nm en W σ S1 H1 ms1 (F r st1) Rb → T v H1) : WE X a' σ H T := by
  refine hA ok ha R (h.bnd.imp fun r st1 S1 H1 ms1 _ x1 R1 h1 v hr => ?_)
  obtain ⟨S2, x2, R2, r2⟩ := R1.shared hr
  exact hT r v st1 S2 H1 ms1 (x1.trans x2) R2 r2 (h1.ext x2)
/-- two operands -/
theorem two_ok {a b : ME} (hA : SndE G a) (hB : SndE G b) (ok : XOk G k X cx W) {a' b' : Expr} (ha : mt a cx [a'] = true) (hb : mt b cx [b'] = true) (R : SR X.K G.nm en S H ms σ st) {β : Type} {F : D → D → Stt → Option (O β)} {Rb : β → Stt → AS → Hp → List Addr → Prop}
    {T : V → V → Hp → Prop} (h : Pst X.K G.nm en W σ S H ms (bnd (opnd a (ev G a).E st) fun x s1 => bnd (opnd b (ev G b).E s1) fun y s2 => (late a x s2).bind fun x => (late b y s2).bind fun y => F x y s2) Rb)
    (hT : ∀ dx dy vx vy st2 S2 H2 ms2, Ext S H ms S2 H2 ms2 → SR X.K G.nm en S2 H2 ms2 σ st2 → RepW X.K G.nm S2 H2 ms2 dx vx → RepW X.K G.nm S2 H2 ms2 dy vy → Pst X.K G.nm en W σ S2 H2 ms2 (F dx dy st2) Rb → T vx vy H2) :
    WE X a' σ H fun x H1 => WE X b' σ H1 fun y H2 => T x y H2 := by
  refine opnd_ok hA ok ha R h fun r v st1 S1 H1 ms1 x1 R1 l1 h1 => ?_
  refine opnd_ok hB ok hb R1 h1 fun r2 v2 st2 S2 H2 ms2 x2 R2 l2 h2 => ?_
  obtain ⟨dx, e1, h3⟩ := h2.opt
  obtain ⟨dy, e2, h4⟩ := h3.opt
  exact hT dx dy v v2 st2 S2 H2 ms2 (x1.trans x2) R2 ((l1.ext x2).w R2 e1) (l2.w R2 e2) h4
theorem one_ok {a : ME} (hA : SndE G a) (ok : XOk G k X cx W) {a' : Expr} (ha : mt a cx [a'] = true) (R : SR X.K G.nm en S H ms σ st) {β : Type} {F : D → Stt → Option (O β)} {Rb : β → Stt → AS → Hp → List Addr → Prop}
    {T : VK} (h : Pst X.K G.nm en W σ S H ms (bnd (opnd a (ev G a).E st) fun x s1 => (late a x s1).bind fun x => F x s1) Rb)
    (hT : ∀ dx vx st2 S2 H2 ms2, Ext S H ms S2 H2 ms2 → SR X.K G.nm en S2 H2 ms2 σ st2 → RepW X.K G.nm S2 H2 ms2 dx vx → Pst X.K G.nm en W σ S2 H2 ms2 (F dx st2) Rb → T vx H2) : WE X a' σ H T := by
  refine opnd_ok hA ok ha R h fun r v st1 S1 H1 ms1 x1 R1 l1 h1 => ?_
  obtain ⟨dx, e1, h3⟩ := h1.opt
  exact hT dx v st1 S1 H1 ms1 x1 R1 (l1.w R1 e1) h3
/-- behind the last look: a value that is ready -/
theorem fin_val {r : Bool × D} {v : V} {Q : VK} {H' : Hp} {S' : AS} {ms' : List Addr} {st' : Stt} (h : Pst X.K G.nm en W σ S H ms (some (.ok r st')) (fun r st' S' H' ms' => ∀ v, RV X.K G.nm en S' H' ms' σ st' r v → Q v H'))
    (x : Ext S H ms S' H' ms') (R : SR X.K G.nm en S' H' ms' σ st') (hr : RV X.K G.nm en S' H' ms' σ st' r v) : Q v H' := (h S' H' ms' x R) v hr

/-! ### the cases -/
theorem snd_var (i : Nat) : SndE G (.var i) := by
  intro k X cx W ok e' hm en S H ms σ st Q R h
  obtain ⟨d, e1, h1⟩ := Pst.opt h
  obtain ⟨S', v, x, R', hs, r⟩ := R.demote e1
  exact ofPE (name_ok rfl ok hm).1 ⟨v, hs, fin_val h1 x R' r⟩
theorem snd_con (c : Const) : SndE G (.con c) := by
  intro k X cx W ok e' hm en S H ms σ st Q R h
  obtain ⟨d, e1, h1⟩ := Pst.opt h
  cases e' with
  | Constant c' j pos =>
    have e : c = c' := of_decide_eq_true hm
    subst e
    have q := fun v (r : Rep X.K G.nm S H ms d v) => fin_val h1 .refl R (v := v) r
    cases c with
    | none => cases e1; exact ofPE pe_non (q _ rfl)
    | bool b => cases e1; exact ofPE pe_bl (q _ rfl)
    | int b => cases e1; exact ofPE pe_int (q _ rfl)
    | str b => cases e1; exact ofPE pe_str (q _ rfl)
    | _ => cases e1
  | _ => cases hm
theorem snd_glob (i : Nat) : SndE G (.glob i) := by
  intro k X cx W ok e' hm en S H ms σ st Q R h
  obtain ⟨d, e1, h1⟩ := Pst.opt h
  cases e' with
  | Name x pos =>
    obtain ⟨g1, g2, g3⟩ := and3 (show (glB cx.sc x && decide (x = cx.nm i) && okN x) = true from hm)
    have e : x = G.nm i := (of_decide_eq_true g2).trans (by rw [ok.nm])
    obtain ⟨u, v, hu, r, hr⟩ := ok.g.cst i d e1
    exact ofPE (pe_glob (ok.gl g1) (by rw [e]; exact hu) r (okN_1 g3).1) (fin_val h1 .refl R (hr S H ms))
  | _ => cases hm
theorem snd_bin {op : Operator} {a b : ME} (hA : SndE G a) (hB : SndE G b) : SndE G (.bin op a b) := by
  intro k X cx W ok e' hm en S H ms σ st Q R h
  cases e' with
  | BinOp a' op' b' pos =>
    obtain ⟨g1, g2, g3⟩ := and3 (show (decide (op = op') && mt a cx [a'] && mt b cx [b']) = true from hm)
    have e := of_decide_eq_true g1
    subst e
    refine ofPE (pe_op (op_bin op) peW peW) (two_ok hA hB ok g2 g3 R h fun dx dy vx vy st2 S2 H2 ms2 x2 R2 wx wy h2 => ?_)
    obtain ⟨r, e1, h3⟩ := h2.val
    exact bin_ok R2 e1 wx wy fun v S' H' x R' hr => fin_val h3 x R' hr
  | _ => cases hm
theorem snd_neg {a : ME} (hA : SndE G a) : SndE G (.neg a) := by
  intro k X cx W ok e' hm en S H ms σ st Q R h
  cases e' with
  | UnaryOp op a' pos =>
    cases op with
    | USub =>
      refine ofPE (pe_un un_neg peW) (shE hA ok hm R h fun r v st1 S1 H1 ms1 x1 R1 r1 h1 => ?_)
      obtain ⟨d, e1, h2⟩ := h1.opt
      obtain ⟨own, x⟩ := r
      cases x with
      | int i =>
        cases e1
        exact ⟨i, r1, fin_val h2 .refl R1 rfl⟩
      | _ => cases e1
    | _ => cases hm
  | _ => cases hm
theorem snd_cmp {op : CmpOp} {a b : ME} (hA : SndE G a) (hB : SndE G b) : SndE G (.cmp op a b) := by
  intro k X cx W ok e' hm en S H ms σ st Q R h
  cases e' with
  | Compare a' ops bs pos =>
    match ops, bs, hm with
    | [op'], [b'], hm =>
      obtain ⟨g0, g4⟩ := and2 (show (decide (op = op') && mt a cx [a'] && mt b cx [b'] && !behindInMarks op' b') = true from hm)
      obtain ⟨g1, g2, g3⟩ := and3 g0
      have e := of_decide_eq_true g1
      subst e
      refine ofPE (pe_cmpR (op_cmp ok.hu5 op) peW peW (by simpa using g4)) (two_ok hA hB ok g2 g3 R h fun dx dy vx vy st2 S2 H2 ms2 x2 R2 wx wy h2 => ?_)
      obtain ⟨r, e1, h3⟩ := h2.opt
      exact cmp_ok e1 wx wy (fin_val h3 .refl R2 rfl)
  | _ => cases hm
theorem tst_cmp {op : CmpOp} {a b : ME} (hA : SndE G a) (hB : SndE G b) : SndT G (.cmp op a b) := by
  intro k X cx W ok e' hm en S H ms σ st Q R h
  cases e' with
  | Compare a' ops bs pos =>
    match ops, bs, hm with
    | [op'], [b'], hm =>
      obtain ⟨g0, g4⟩ := and2 (show (decide (op = op') && mt a cx [a'] && mt b cx [b'] && !behindInMarks op' b') = true from hm)
      obtain ⟨g1, g2, g3⟩ := and3 g0
      have e := of_decide_eq_true g1
      subst e
      refine ofPT (pt_cmpR (op_cmp ok.hu5 op) peW peW (by simpa using g4)) (two_ok hA hB ok g2 g3 R (Pst.bnd h) fun dx dy vx vy st2 S2 H2 ms2 x2 R2 wx wy h2 => ?_)
      obtain ⟨r, e1, h3⟩ := h2.opt
      obtain ⟨t, e2, h4⟩ := (Pst.now h3 R2).val
      cases e2
      exact cmp_ok e1 wx wy ⟨r, rfl, Pst.now h4 R2⟩
  | _ => cases hm
theorem snd_chain {op op' : CmpOp} {a b c : ME} (hA : SndE G a) (hB : SndE G b) (hC : SndE G c) : SndE G (.chain op op' a b c) := by
  intro k X cx W ok e' hm en S H ms σ st Q R h
  cases e' with
  | Compare a' ops bs pos =>
    match ops, bs, hm with
    | [o1, o2], [b', c'], hm =>
      obtain ⟨g0, g6⟩ := and2 (show (decide (op = o1) && decide (op' = o2) && mt a cx [a'] && mt b cx [b'] && mt c cx [c'] && !lastMarks [o1, o2] [b', c']) = true from hm)
      obtain ⟨g0, g4, g5⟩ := and3 g0
      obtain ⟨g1, g2, g3⟩ := and3 g0
      have e1 := of_decide_eq_true g1
      have e2 := of_decide_eq_true g2
      subst e1 e2
      refine ofPE (pe_chain (op_cmp ok.hu5 op) (op_cmp ok.hu5 op') peW peW peW (by simpa using g6)) (shE hA ok g3 R h fun r1 v1 st1 S1 H1 ms1 x1 R1 q1 h1 => ?_)
      refine shE hB ok g4 R1 h1 fun r2 v2 st2 S2 H2 ms2 x2 R2 q2 h2 => ?_
      obtain ⟨t, et, h3⟩ := h2.opt
      refine cmp_ok et (q1.ext x2).w q2.w ⟨t, rfl, ?_⟩
      cases t with
      | false =>
        rw [if_neg Bool.false_ne_true] at h3 ⊢
        exact fin_val h3 .refl R2 rfl
      | true =>
        rw [if_pos rfl] at h3 ⊢
        refine shE hC ok g5 R2 h3 fun r3 v3 st3 S3 H3 ms3 x3 R3 q3 h4 => ?_
        obtain ⟨u, eu, h5⟩ := h4.opt
        exact cmp_ok eu (q2.ext x3).w q3.w (fin_val h5 .refl R3 rfl)
  | _ => cases hm
theorem tst_chain {op op' : CmpOp} {a b c : ME} (hA : SndE G a) (hB : SndE G b) (hC : SndE G c) : SndT G (.chain op op' a b c) := by
  intro k X cx W ok e' hm en S H ms σ st Q R h
  cases e' with
  | Compare a' ops bs pos =>
    match ops, bs, hm with
    | [o1, o2], [b', c'], hm =>
      obtain ⟨g0, g6⟩ := and2 (show (decide (op = o1) && decide (op' = o2) && mt a cx [a'] && mt b cx [b'] && mt c cx [c'] && !lastMarks [o1, o2] [b', c']) = true from hm)
      obtain ⟨g0, g4, g5⟩ := and3 g0
      obtain ⟨g1, g2, g3⟩ := and3 g0
      have e1 := of_decide_eq_true g1
      have e2 := of_decide_eq_true g2
      subst e1 e2
      refine ofPT (pt_chain (op_cmp ok.hu5 op) (op_cmp ok.hu5 op') peW peW peW (by simpa using g6)) (shE hA ok g3 R (Pst.bnd h) fun r1 v1 st1 S1 H1 ms1 x1 R1 q1 h1 => ?_)
      refine shE hB ok g4 R1 h1 fun r2 v2 st2 S2 H2 ms2 x2 R2 q2 h2 => ?_
      obtain ⟨t, et, h3⟩ := h2.opt
      refine cmp_ok et (q1.ext x2).w q2.w ⟨t, rfl, ?_⟩
      cases t with
      | false =>
        rw [if_neg Bool.false_ne_true] at h3 ⊢
        obtain ⟨t, e2, h4⟩ := (Pst.now h3 R2).val
        cases e2
        exact ⟨false, rfl, Pst.now h4 R2⟩
      | true =>
        rw [if_pos rfl] at h3 ⊢
        refine shE hC ok g5 R2 h3 fun r3 v3 st3 S3 H3 ms3 x3 R3 q3 h4 => ?_
        obtain ⟨u, eu, h5⟩ := h4.opt
        obtain ⟨t, e2, h6⟩ := (Pst.now h5 R3).val
        cases e2
        exact cmp_ok eu (q2.ext x3).w q3.w ⟨u, rfl, Pst.now h6 R3⟩
  | _ => cases hm
theorem snd_not {a : ME} (hA : SndE G a) : SndE G (.not a) := by
  intro k X cx W ok e' hm en S H ms σ st Q R h
  cases e' with
  | UnaryOp op a' pos =>
    cases op with
    | Not =>
      refine ofPE (pe_notT peW) (one_ok hA ok hm R h fun dx vx st2 S2 H2 ms2 x2 R2 wx h2 => ?_)
      obtain ⟨b, e1, h3⟩ := h2.opt
      exact ⟨b, tru_ok e1 wx, fin_val h3 .refl R2 rfl⟩
    | _ => cases hm
  | _ => cases hm
theorem tst_not {a : ME} (hA : SndT G a) : SndT G (.not a) := by
  intro k X cx W ok e' hm en S H ms σ st Q R h
  cases e' with
  | UnaryOp op a' pos =>
    cases op with
    | Not => exact ofPT (pt_not ptW) (hA ok hm R (h.bnd.imp fun b st1 S1 H1 ms1 _ _ R1 h1 => Pst.now h1 R1))
    | _ => cases hm
  | _ => cases hm
theorem snd_and {a b : ME} (hA : SndE G a) (hB : SndE G b) : SndE G (.and a b) := by
  intro k X cx W ok e' hm en S H ms σ st Q R h
  cases e' with
  | BoolOp op es pos =>
    match op, es, hm with
    | .And, a' :: b' :: r, hm =>
      obtain ⟨g1, g2⟩ := and2 (show (mt a cx [a'] && mt b cx [boR .And b' r pos]) = true from hm)
      have hb : PE X (.BoolOp .And (b' :: r) pos) (match r with | [] => WE X b' | _ :: _ => WE X (.BoolOp .And (b' :: r) pos)) := by
        cases r with
        | nil => exact pe_one peW
        | cons c r => exact peW
      refine ofPE (pe_andT peW hb) (shE hA ok g1 R h fun r1 v1 st1 S1 H1 ms1 x1 R1 q1 h1 => ?_)
      obtain ⟨t, et, h2⟩ := h1.opt
      refine ⟨t, tru_ok et q1.w, ?_⟩
      cases t with
      | false =>
        rw [if_neg Bool.false_ne_true] at h2 ⊢
        exact fin_val h2 .refl R1 q1
      | true =>
        rw [if_pos rfl] at h2 ⊢
        cases r with
        | nil => exact hB ok g2 R1 h2
        | cons c r => exact hB ok g2 R1 h2
  | _ => cases hm
theorem snd_or {a b : ME} (hA : SndE G a) (hB : SndE G b) : SndE G (.or a b) := by
  intro k X cx W ok e' hm en S H ms σ st Q R h
  cases e' with
  | BoolOp op es pos =>
    match op, es, hm with
    | .Or, a' :: b' :: r, hm =>
      obtain ⟨g1, g2⟩ := and2 (show (mt a cx [a'] && mt b cx [boR .Or b' r pos]) = true from hm)
      have hb : PE X (.BoolOp .Or (b' :: r) pos) (match r with | [] => WE X b' | _ :: _ => WE X (.BoolOp .Or (b' :: r) pos)) := by
        cases r with
        | nil => exact pe_one peW
        | cons c r => exact peW
      refine ofPE (pe_orT peW hb) (shE hA ok g1 R h fun r1 v1 st1 S1 H1 ms1 x1 R1 q1 h1 => ?_)
      obtain ⟨t, et, h2⟩ := h1.opt
      refine ⟨t, tru_ok et q1.w, ?_⟩
      cases t with
      | true =>
        rw [if_pos rfl] at h2 ⊢
        exact fin_val h2 .refl R1 q1
      | false =>
        rw [if_neg Bool.false_ne_true] at h2 ⊢
        cases r with
        | nil => exact hB ok g2 R1 h2
        | cons c r => exact hB ok g2 R1 h2
  | _ => cases hm
theorem tst_and {a b : ME} (hA : SndT G a) (hB : SndT G b) : SndT G (.and a b) := by
  intro k X cx W ok e' hm en S H ms σ st Q R h
  cases e' with
  | BoolOp op es pos =>
    match op, es, hm with
    | .And, a' :: b' :: r, hm =>
      obtain ⟨g1, g2⟩ := and2 (show (mt a cx [a'] && mt b cx [boR .And b' r pos]) = true from hm)
      have key : ∀ {tb : TT}, PW X (.BoolOp .And (b' :: r) pos) tb → (∀ {S1 : AS} {H1 : Hp} {ms1 : List Addr} {st1 : Stt}, SR X.K G.nm en S1 H1 ms1 σ st1 → Pst X.K G.nm en W σ S1 H1 ms1 ((ev G b).T st1) (fun b st' S' H' ms' => Q b H') → tb σ H1 Q) → WT X (.BoolOp .And (a' :: b' :: r) pos) σ H Q := fun hb hq => by
        refine ofPT (pw_and ptW hb).pt (hA ok g1 R ((Pst.bnd h).imp fun t st1 S1 H1 ms1 _ x1 R1 h1 => ?_))
        cases t with
        | false =>
          rw [if_neg Bool.false_ne_true] at h1 ⊢
          exact Pst.now h1 R1
        | true =>
          rw [if_pos rfl] at h1 ⊢
          exact hq R1 h1
      cases r with
      | nil => exact key (pw_and1 ptW) fun R1 h1 => hB ok g2 R1 h1
      | cons c r => exact key (tb := WT X (.BoolOp .And (b' :: c :: r) pos)) ⟨fun whole pins s σ H Q I h => h pins s I⟩ fun R1 h1 => hB ok g2 R1 h1
  | _ => cases hm
theorem tst_or {a b : ME} (hA : SndT G a) (hB : SndT G b) : SndT G (.or a b) := by
  intro k X cx W ok e' hm en S H ms σ st Q R h
  cases e' with
  | BoolOp op es pos =>
    match op, es, hm with
    | .Or, a' :: b' :: r, hm =>
      obtain ⟨g1, g2⟩ := and2 (show (mt a cx [a'] && mt b cx [boR .Or b' r pos]) = true from hm)
      have key : ∀ {tb : TT}, PW X (.BoolOp .Or (b' :: r) pos) tb → (∀ {S1 : AS} {H1 : Hp} {ms1 : List Addr} {st1 : Stt}, SR X.K G.nm en S1 H1 ms1 σ st1 → Pst X.K G.nm en W σ S1 H1 ms1 ((ev G b).T st1) (fun b st' S' H' ms' => Q b H') → tb σ H1 Q) → WT X (.BoolOp .Or (a' :: b' :: r) pos) σ H Q := fun hb hq => by
        refine ofPT (pw_or ptW hb).pt (hA ok g1 R ((Pst.bnd h).imp fun t st1 S1 H1 ms1 _ x1 R1 h1 => ?_))
        cases t with
        | true =>
          rw [if_pos rfl] at h1 ⊢
          exact Pst.now h1 R1
        | false =>
          rw [if_neg Bool.false_ne_true] at h1 ⊢
          exact hq R1 h1
      cases r with
      | nil => exact key (pw_or1 ptW) fun R1 h1 => hB ok g2 R1 h1
      | cons c r => exact key (tb := WT X (.BoolOp .Or (b' :: c :: r) pos)) ⟨fun whole pins s σ H Q I h => h pins s I⟩ fun R1 h1 => hB ok g2 R1 h1
  | _ => cases hm
theorem snd_ite {c a b : ME} (hC : SndT G c) (hA : SndE G a) (hB : SndE G b) : SndE G (.ite c a b) := by
  intro k X cx W ok e' hm en S H ms σ st Q R h
  cases e' with
  | IfExp c' a' b' pos =>
    obtain ⟨g1, g2, g3⟩ := and3 (show (mt c cx [c'] && mt a cx [a'] && mt b cx [b']) = true from hm)
    refine ofPE (pe_ifExp ptW peW peW) (hC ok g1 R (h.bnd.imp fun t st1 S1 H1 ms1 _ x1 R1 h1 => ?_))
    cases t with
    | true =>
      rw [if_pos rfl] at h1 ⊢
      exact hA ok g2 R1 h1
    | false =>
      rw [if_neg Bool.false_ne_true] at h1 ⊢
      exact hB ok g3 R1 h1
  | _ => cases hm
/-- a test by a value's truth -/
theorem tst_of {m : ME} (hE : SndE G m) (hT : (ev G m).T = tstE (ev G m).E) (hs : ∀ {cx : MC} {e' : Expr} {env : Env}, mt m cx [e'] = true → ∀ whole, isTrue e' env whole = (do let v ← whole; standAt e'.pos; holding [v] (truthy v))) : SndT G m := by
  intro k X cx W ok e' hm en S H ms σ st Q R h
  rw [hT] at h
  refine ofPT (pt_truth peW (hs hm)) (shE hE ok hm R h fun r v st1 S1 H1 ms1 x1 R1 q1 h1 => ?_)
  obtain ⟨t, et, h2⟩ := h1.val
  exact ⟨t, tru_ok et q1.w, Pst.now h2 R1⟩
theorem tst_none {m : ME} (hT : (ev G m).T = fun _ => none) : SndT G m := by
  intro k X cx W ok e' hm en S H ms σ st Q R h
  rw [hT] at h
  exact h.elim
theorem arg_none {m : ME} (hT : (ev G m).A = fun _ => none) : SndA G m := by
  intro k X cx W ok e' hm en S H ms σ st Q R h
  rw [hT] at h
  exact h.elim
theorem exp_none {m : ME} (hT : (ev G m).E = fun _ => none) : SndE G m := by
  intro k X cx W ok e' hm en S H ms σ st Q R h
  rw [hT] at h
  exact h.elim
theorem itr_none {m : ME} (hT : (ev G m).I = fun _ => none) : SndI G m := by
  intro k X cx W ok e' tg hm _ en S H ms σ st Q R h
  rw [hT] at h
  exact h.elim
theorem tst_var (i : Nat) : SndT G (.var i) := by
  intro k X cx W ok e' hm en S H ms σ st Q R h
  obtain ⟨d, e1, h1⟩ := Pst.opt h
  obtain ⟨t, et, h2⟩ := h1.val
  obtain ⟨v, hs, wv⟩ := R.peekW e1
  obtain ⟨hp, ht⟩ := name_ok rfl ok hm
  exact ofPT (pt_truth hp ht) ⟨v, hs, t, tru_ok et wv, Pst.now h2 R⟩
theorem snd_anil : SndA G .anil := by
  intro k X cx W ok es hm en S H ms σ st Q R h
  cases es with
  | nil => exact fun pos pins s I => pa_nil.run pos pins s σ H Q I (Pst.now h R [] trivial)
  | cons e es => cases hm
theorem snd_acons {a as : ME} (hA : SndE G a) (hB : SndA G as) : SndA G (.acons a as) := by
  intro k X cx W ok es hm en S H ms σ st Q R h
  cases es with
  | nil => cases hm
  | cons e' r =>
    obtain ⟨g1, g2⟩ := and2 (show (mt a cx [e'] && mt as cx r) = true from hm)
    refine fun pos pins s I => (pa_cons (te := WE X e') (t := WA X r) peW paW (mt_nostar g1 r X.env)).run pos pins s σ H Q I ?_
    refine shE hA ok g1 R h fun r1 v1 st1 S1 H1 ms1 x1 R1 q1 h1 => ?_
    refine hB ok g2 R1 (h1.bnd.imp fun ds st2 S2 H2 ms2 _ x2 R2 h2 vs rs => ?_)
    exact Pst.now h2 R2 (v1 :: vs) ⟨q1.ext x2, rs⟩
end
end Ev
set_option Elab.async false
set_option linter.all false
set_option maxRecDepth 100000
set_option maxHeartbeats 4000000
/-! Ev5: calls, attributes, places, parts, displays, built-ins. -/
namespace Ev
open PySem PySem.Spec L2
section
variable {G : Tab} {k : Nat} {X : Cx} {cx : MC} {W : WX} {en : Ent} {S : AS} {H : Hp} {ms : List Addr} {σ : L2.St} {st : Stt}

/-! ### calls -/
theorem rr_rv {K : PySem.W.Frag} {nm : Nat → Str} {S' : AS} {H' : Hp} {ms' : List Addr} {own : Bool} {d : D} {v : V} {ob' : List OE} (R : SR K nm en S H ms σ st) (h : RR K nm H S' H' ms' own d v) : RV K nm en S' H' ms' σ { st with ob := ob' } (own, d) v := by
  cases own with
  | false => exact h
  | true =>
    obtain ⟨p, l, e1, e2, h1, h2, h3, xs, h4, h5⟩ := h
    refine ⟨p, l, e1, e2, h1, h2, ⟨xs, h4, h5⟩, R.free h3, fun i d hi z => ?_, fun q hq => ne_of_none (R.pin q hq).1 h3⟩
    obtain ⟨q, ys, l', _, hs, _, g2, _⟩ := R.ownAt hi
    rw [z] at hs
    cases hs
    rw [h3] at g2
    cases g2
/-- a promise's premises, from what a body knows -/
theorem to_sp {sem0 : FSem} {ps : List Str} {ds dd : List D} {vs dvs : List V} {r : FR} {Q : VK} (R : SR X.K G.nm en S H ms σ st) (hv : RepL X.K G.nm S H ms ds vs) (hd : RepL X.K G.nm S H ms dd dvs) (hl : (ds ++ dd).length = ps.length) (hs : sem0 (ds ++ dd) st.ob = some r)
    (h : Pst X.K G.nm en W σ S H ms (ofFR (some r) st) (fun r st' S' H' ms' => ∀ v, RV X.K G.nm en S' H' ms' σ st' r v → Q v H')) : spS X.K G.nm ps.length sem0 (vs ++ dvs) H Q (fun cls d H' => W cls d σ H') := by
  refine ⟨S, ms, ds ++ dd, st.ob, r, R.b, hv.append hd, hl, hs, ?_⟩
  cases r with
  | ret own d ob' =>
    intro v H' S' ms' f b rr
    obtain ⟨x, R'⟩ := R.called f b
    exact (h S' H' ms' x R') v (rr_rv R rr)
  | exc c fs l ob' =>
    intro d H' S' ms' f b xr
    obtain ⟨x, R'⟩ := R.called f b
    exact h d S' H' ms' x R' xr
theorem run_callee (ok : XOk G k X cx W) {sem : FSem} {At : Addr → Prop} (C : Callee X.prog X.w X.K X.mg X.base k G.nm sem At) : ∃ f, At f ∧ ∀ {pins : List (Addr × Obj)} {s : Shared} {en : Ent} {S : AS} {H : Hp} {ms : List Addr} {σ : L2.St} {st : Stt} {ds : List D} {vs : List V} {us : List Value} {Q : VK},
    Inv X pins σ H s → SR X.K G.nm en S H ms σ st → RepL X.K G.nm S H ms ds vs → Vals vs us → Pst X.K G.nm en W σ S H ms (ofFR (sem ds st.ob) st) (fun r st' S' H' ms' => ∀ v, RV X.K G.nm en S' H' ms' σ st' r v → Q v H') →
    wpAny (model X.prog X.w) X.A (call (.ref f) us) (EP X pins σ Q) X.xe s := by
  obtain ⟨f, fd, ps, sem0, F, hf, hc⟩ := C
  refine ⟨f, hf, fun {pins s en S H ms σ st ds vs us Q} I R hv ru h => ?_⟩
  cases hs : sem ds st.ob with
  | none =>
    rw [hs] at h
    exact h.elim
  | some r =>
    rw [hs] at h
    obtain ⟨dd, dvs, dv, hd, rd, bd, hl, h0⟩ := hc ds st.ob r hs
    have sp := to_sp (W := W) (ps := ps) R hv (hd S H ms) hl h0 h
    have r2 : Vals (vs ++ dvs) (us ++ dv) := ru.append rd
    have hl2 : (us ++ dv).length = ps.length := by rw [← r2.length, ← (hv.append (hd S H ms)).len]; exact hl
    refine wpAny_call (codeAny_mono (F.run X.A X.stack s H ⟨us, []⟩ (us ++ dv) (vs ++ dvs) Q _ (ok.room.mono (Nat.le_succ k)) I.env0 (bd s us I.kIn hl2) r2 sp) fun res s' hq => ?_)
    cases res with
    | error er => exact ok.tk er s' (XE.of_call I (fun _ _ _ z => z) hq)
    | ok fl =>
      cases fl with
      | ret u => exact I.after hq
      | next => exact False.elim hq
      | brk => exact False.elim hq
      | cont => exact False.elim hq
theorem mt_call {i : Nat} {as : ME} {e' : Expr} (hm : mt (.call i as) cx [e'] = true) : ∃ x p args pos, e' = .Call (.Name x p) args [] pos ∧ glB cx.sc x = true ∧ x = cx.nm i ∧ okN x = true ∧ isRow as = true ∧ mt as cx args = true := by
  have h : (match [e'] with
    | [.Call (.Name x _) args [] _] => glB cx.sc x && decide (x = cx.nm i) && okN x && isRow as && mt as cx args
    | _ => false) = true := hm
  split at h
  · rename_i x p args pos e
    cases e
    obtain ⟨g0, g5⟩ := and2 h
    obtain ⟨g0, g4⟩ := and2 g0
    obtain ⟨g1, g2, g3⟩ := and3 g0
    exact ⟨x, p, args, pos, rfl, g1, of_decide_eq_true g2, g3, g4, g5⟩
  · cases h
theorem mt_make {i : Nat} {as : ME} {e' : Expr} (hm : mt (.make i as) cx [e'] = true) : mt (.call i as) cx [e'] = true := hm
/-- f(..), whatever f is, by what the call of it with these values comes to -/
theorem call_by {as : ME} (hA : SndA G as) (ok : XOk G k X cx W) {x : Str} {p pos : Pos} {args : List Expr} {fa : Addr} (g1 : glB cx.sc x = true) (g3 : okN x = true) (g4 : isRow as = true) (g5 : mt as cx args = true) (hmg : X.mg x = some (.ref fa)) (hk : PySem.W.keepIn X.K (.ref fa) = true)
    {Q : VK} (R : SR X.K G.nm en S H ms σ st) {β : Type} {F : List D → Stt → Option (O β)} {Rb : β → Stt → AS → Hp → List Addr → Prop} (h : Pst X.K G.nm en W σ S H ms (bnd ((ev G as).A st) F) Rb)
    (go : ∀ {pins : List (Addr × Obj)} {s : Shared} {S1 : AS} {H1 : Hp} {ms1 : List Addr} {st1 : Stt} {ds : List D} {vs : List V} {us : List Value}, Inv X pins σ H1 s → Ext S H ms S1 H1 ms1 → SR X.K G.nm en S1 H1 ms1 σ st1 → RepL X.K G.nm S1 H1 ms1 ds vs → Vals vs us → Pst X.K G.nm en W σ S1 H1 ms1 (F ds st1) Rb →
      wpAny (model X.prog X.w) X.A (call (.ref fa) us) (EP X pins σ Q) X.xe s) : WE X (.Call (.Name x p) args [] pos) σ H Q := by
  intro pins s I
  refine wpAny_Call_Name_kw (ld_glob I (ok.gl g1) hmg ?_ (okN_1 g3).1)
  have hr : WA X args σ H fun vs H1 => ∃ S1 ms1 st1 ds, Ext S H ms S1 H1 ms1 ∧ SR X.K G.nm en S1 H1 ms1 σ st1 ∧ RepL X.K G.nm S1 H1 ms1 ds vs ∧ Pst X.K G.nm en W σ S1 H1 ms1 (F ds st1) Rb :=
    hA ok g5 R (h.bnd.imp fun ds st1 S1 H1 ms1 _ x1 R1 h1 vs rv => ⟨S1, ms1, st1, ds, x1, R1, rv, h1⟩)
  cases args with
  | nil =>
    refine PySem.W.callWith_K0 I.kIn hk ?_
    cases as with
    | anil => exact go I .refl R (show RepL X.K G.nm S H ms [] [] from trivial) .nil h
    | _ => first | cases g5 | cases g4
  | cons e r =>
    obtain ⟨a1, as1, rfl⟩ : ∃ a1 as1, as = .acons a1 as1 := by
      cases as with
      | acons a1 as1 => exact ⟨a1, as1, rfl⟩
      | anil => cases g5
      | _ => cases g4
    obtain ⟨m1, m2⟩ := and2 (show (mt a1 cx [e] && mt as1 cx r) = true from g5)
    refine PySem.W.callWith_K (h₀ := X.base) I.ok.mod.kin hk (thn (hr pos pins s I) fun us s1 ⟨vs, H1, I1, r1, S1, ms1, st1, ds, x1, R1, rv, h1⟩ => ⟨I1.kIn, go I1 x1 R1 rv r1 h1⟩) (mt_nostar m1 r X.env) (plain_args (es := as1) pos g4 m2).1
theorem snd_call {i : Nat} {as : ME} (hA : SndA G as) : SndE G (.call i as) := by
  intro k X cx W ok e' hm en S H ms σ st Q R h
  obtain ⟨x, p, args, pos, rfl, g1, g2, g3, g4, g5⟩ := mt_call hm
  obtain ⟨sem, hf, h⟩ := Pst.opt h
  obtain ⟨f, ⟨hmg, hk⟩, go⟩ := run_callee ok (ok.g.fn i sem hf)
  refine call_by hA ok g1 g3 g4 g5 (by rw [g2, ok.nm]; exact hmg) hk R h fun I1 x1 R1 rv r1 h1 => go I1 R1 rv r1 h1
theorem zip_look {K : PySem.W.Frag} {nm : Nat → Str} (inj : ∀ i j, nm i = nm j → i = j) {f : Nat} : ∀ {fs : List Nat} {l : List D} {vs : List V} {d : D}, RepL K nm S H ms l vs → (fs.zip l).lookup f = some d → ∃ v, ((fs.map nm).zip vs).lookup (nm f) = some v ∧ Rep K nm S H ms d v
  | [], _, _, _, _, h => by simp at h
  | _ :: _, [], _, _, _, h => by simp at h
  | g :: fs, d :: l, [], _, r, _ => r.elim
  | g :: fs, d :: l, v :: vs, d', r, h => by
    rw [List.zip_cons_cons, List.lookup_cons] at h
    rw [List.map_cons, List.zip_cons_cons, List.lookup_cons]
    by_cases e : f = g
    · subst e
      simp only [BEq.rfl] at h ⊢
      cases h
      exact ⟨v, rfl, r.1⟩
    · have e1 : (f == g) = false := by simpa using e
      have e2 : (nm f == nm g) = false := by
        have : nm f ≠ nm g := fun z => e (inj f g z)
        simpa using this
      rw [e1] at h
      rw [e2]
      exact zip_look inj r.2 h
theorem zip_none {nm : Nat → Str} (inj : ∀ i j, nm i = nm j → i = j) {m : Nat} : ∀ {fs : List Nat} {vs : List V}, fs.contains m = false → ((fs.map nm).zip vs).lookup (nm m) = none
  | [], _, _ => by simp
  | _ :: _, [], _ => by simp
  | g :: fs, v :: vs, h => by
    rw [List.map_cons, List.zip_cons_cons, List.lookup_cons]
    have h1 : ¬ (m = g ∨ m ∈ fs) := by simpa using h
    have e2 : (nm m == nm g) = false := by
      have : nm m ≠ nm g := fun z => h1 (.inl (inj m g z))
      simpa using this
    rw [e2]
    exact zip_none inj (by simpa using fun z => h1 (.inr z))
/-- a thing with attributes -/
theorem cls_at {K : PySem.W.Frag} {nm : Nat → Str} (inj : ∀ i j, nm i = nm j → i = j) {m c : Nat} {d : D} {v : V} (R : SR K nm en S H ms σ st) (hv : Rep K nm S H ms d v) (hc : clsD m d st = some c) :
    ∃ a dx fvs, v = .ref a ∧ H a = some (.ins (He.ga K (nm c)) dx fvs) ∧ fvs.lookup (nm m) = none := by
  unfold clsD at hc
  split at hc
  · rename_i c' fs l
    obtain ⟨a, dx, vs, e1, _, h1, hl, r⟩ := hv
    split at hc
    · cases hc
    · rename_i hn
      cases hc
      exact ⟨a, dx, _, e1, h1, zip_none inj (by simpa using hn)⟩
  · rename_i n
    obtain ⟨a, e1, h1⟩ := hv
    split at hc
    · rename_i c' fs l ho
      obtain ⟨dx, vs, h2, hl, r⟩ := R.b.obs n a _ h1 ho
      split at hc
      · cases hc
      · rename_i hn
        cases hc
        exact ⟨a, dx, _, e1, h2, zip_none inj (by simpa using hn)⟩
    · cases hc
  · cases hc
theorem snd_meth {i : Nat} {o as : ME} (hO : SndE G o) (hA : SndA G as) : SndE G (.meth i o as) := by
  intro k X cx W ok e' hm en S H ms σ st Q R h
  have hm1 : (match [e'] with
    | [.Call (.Attribute o' x apos) args [] pos] => decide (x = cx.nm i) && mt o cx [o'] && isRow as && mt as cx args && nsup o' && decide (args.length < 20) && (apos.endLine == pos.line)
    | _ => false) = true := hm
  split at hm1
  · rename_i o' x apos args pos e
    cases e
    obtain ⟨g0, g7⟩ := and2 hm1
    obtain ⟨g0, g5, g6⟩ := and3 g0
    obtain ⟨g0, g3, g4⟩ := and3 g0
    obtain ⟨g1, g2⟩ := and2 g0
    have e1 : x = G.nm i := (of_decide_eq_true g1).trans (by rw [ok.nm])
    subst e1
    have pl := plain_args (es := as) (env := X.env) pos g3 g4
    intro pins s I
    refine PySem.W.methodCall_KW (pl := plainOf o' X.env) ?_ (meth_eval g5 g7 g6 pl.2)
    have hO1 := shE (T := fun v H1 => ∃ S1 ms1 st1 r, Ext S H ms S1 H1 ms1 ∧ SR X.K G.nm en S1 H1 ms1 σ st1 ∧ Rep X.K G.nm S1 H1 ms1 r v ∧ Pst X.K G.nm en W σ S1 H1 ms1 ((clsD i r st1).bind fun c => (G.mth c i).bind fun f => bnd ((ev G as).A st1) fun ds s2 => ofFR (f (r :: ds) s2.ob) s2) (fun r st' S' H' ms' => ∀ v, RV X.K G.nm en S' H' ms' σ st' r v → Q v H')) hO ok g2 R h fun r v st1 S1 H1 ms1 x1 R1 q1 h1 => ⟨S1, ms1, st1, r.2, x1, R1, q1, h1⟩
    refine thn (hO1 pins s I) fun u s1 ⟨v, H1, I1, ru, S1, ms1, st1, r, x1, R1, q1, h1⟩ => ?_
    obtain ⟨c, hc, h2⟩ := h1.opt
    obtain ⟨sem, hs, h3⟩ := h2.opt
    obtain ⟨cl, C⟩ := ok.g.mth c i sem hs
    obtain ⟨f, hf, go⟩ := run_callee ok C
    obtain ⟨a, dx, fvs, rfl, ha, hl⟩ := cls_at ok.g.inj R1 q1 hc
    obtain rfl : u = Value.ref a := ru
    refine getmeth_ok I1 ha cl hf hl ?_
    have hr : WA X args σ H1 fun vs H2 => ∃ S2 ms2 st2 ds, Ext S1 H1 ms1 S2 H2 ms2 ∧ SR X.K G.nm en S2 H2 ms2 σ st2 ∧ RepL X.K G.nm S2 H2 ms2 ds vs ∧ Pst X.K G.nm en W σ S2 H2 ms2 (ofFR (sem (r :: ds) st2.ob) st2) (fun r st' S' H' ms' => ∀ v, RV X.K G.nm en S' H' ms' σ st' r v → Q v H') :=
      hA ok g4 R1 (h3.bnd.imp fun ds st2 S2 H2 ms2 _ x2 R2 h2 vs rv => ⟨S2, ms2, st2, ds, x2, R2, rv, h2⟩)
    cases args with
    | nil =>
      refine PySem.W.callWith_K0 (first := [.ref a]) I1.kIn hf.kp ?_
      cases as with
      | anil => exact go I1 R1 (show RepL X.K G.nm S1 H1 ms1 [r] [.ref a] from ⟨q1, trivial⟩) (.cons rfl .nil) h3
      | _ => first | cases g4 | cases g3
    | cons e r' =>
      obtain ⟨a1, as1, rfl⟩ : ∃ a1 as1, as = .acons a1 as1 := by
        cases as with
        | acons a1 as1 => exact ⟨a1, as1, rfl⟩
        | anil => cases g4
        | _ => cases g3
      obtain ⟨m1, m2⟩ := and2 (show (mt a1 cx [e] && mt as1 cx r') = true from g4)
      exact PySem.W.callWith_K (first := [.ref a]) (h₀ := X.base) I.ok.mod.kin hf.kp (thn (hr pos pins s1 I1) fun us s2 ⟨vs, H2, I2, r2, S2, ms2, st2, ds, x2, R2, rv, h4⟩ => ⟨I2.kIn, go (us := .ref a :: us) I2 R2 (show RepL X.K G.nm S2 H2 ms2 (r :: ds) (.ref a :: vs) from ⟨q1.ext x2, rv⟩) (.cons rfl r2) h4⟩) (mt_nostar m1 r' X.env) (plain_args (es := as1) pos g3 m2).1
  · cases hm1
/-! ### attributes -/
theorem snd_attr {f : Nat} {o : ME} (hO : SndE G o) : SndE G (.attr f o) := by
  intro k X cx W ok e' hm en S H ms σ st Q R h
  cases e' with
  | Attribute o' x pos =>
    obtain ⟨g1, g2, g3⟩ := and3 (show (decide (x = cx.nm f) && mt o cx [o'] && nsup o') = true from hm)
    have e1 : x = G.nm f := (of_decide_eq_true g1).trans (by rw [ok.nm])
    subst e1
    refine ofPE (pe_fld peW (base_ok g3)) (shE hO ok g2 R h fun r v st1 S1 H1 ms1 x1 R1 q1 h1 => ?_)
    obtain ⟨d, hd, h2⟩ := h1.opt
    unfold attrD at hd
    split at hd
    · rename_i c fs l er
      rw [er] at q1
      split at hd
      · rename_i ha
        obtain ⟨a, dx, vs, e1, _, g4, hl, rl⟩ := q1
        obtain ⟨cl, na⟩ := ok.g.att c f ha
        obtain ⟨u, e2, ru⟩ := zip_look ok.g.inj rl hd
        exact ⟨a, _, dx, _, u, e1, g4, cl, na, e2, fin_val h2 .refl R1 ru⟩
      · cases hd
    · rename_i n er
      rw [er] at q1
      obtain ⟨a, e1, g4⟩ := q1
      split at hd
      · rename_i c fs l ho
        split at hd
        · rename_i ha
          obtain ⟨dx, vs, g5, hl, rl⟩ := R1.b.obs n a _ g4 ho
          obtain ⟨cl, na⟩ := ok.g.att c f ha
          obtain ⟨u, e2, ru⟩ := zip_look ok.g.inj rl hd
          exact ⟨a, _, dx, _, u, e1, g5, cl, na, e2, fin_val h2 .refl R1 ru⟩
        · cases hd
      · cases hd
    · cases hd
  | _ => cases hm
/-! ### places, parts -/
theorem plainIx {b : Expr} (h : notSlice b = true) : PlainIx b := by
  intro o i
  cases b with
  | Slice _ _ _ _ => cases h
  | _ => rfl
theorem snd_idx {a b : ME} (hA : SndE G a) (hB : SndE G b) : SndE G (.idx a b) := by
  intro k X cx W ok e' hm en S H ms σ st Q R h
  cases e' with
  | Subscript a' b' pos =>
    obtain ⟨g1, g2, g3⟩ := and3 (show (mt a cx [a'] && mt b cx [b'] && notSlice b') = true from hm)
    refine ofPE (pe_ix ix_seq peW peW (plainIx g3)) (two_ok hA hB ok g1 g2 R h fun dx dy vx vy st2 S2 H2 ms2 x2 R2 wx wy h2 => ?_)
    obtain ⟨d, e1, h3⟩ := h2.opt
    exact idx_ok e1 wx wy fun v rv => fin_val h3 .refl R2 rv
  | _ => cases hm
theorem bound_ok {m : ME} (hA : SndE G m) (ok : XOk G k X cx W) {o : Option Expr} (hm : (match o with
    | none => isNil m
    | some l => mt m cx [l]) = true) {Q : Option Int → Hp → Prop} (R : SR X.K G.nm en S H ms σ st)
    (h : Pst X.K G.nm en W σ S H ms ((ev G m).B st) fun b st' S' H' ms' => Q b H') : WO X o σ H Q := by
  cases o with
  | none =>
    cases m with
    | anil => exact ofPO po_none (Pst.now h R)
    | _ => cases hm
  | some l =>
    have key : (ev G m).B = bndE (ev G m).E ∨ ((ev G m).B = fun _ => none) ∨ m = .anil := by
      cases m <;> first | exact .inl rfl | exact .inr (.inl rfl) | exact .inr (.inr rfl)
    rcases key with e | e | e
    · rw [e] at h
      refine ofPO (po_some peW) (shE hA ok hm R h fun r v st1 S1 H1 ms1 x1 R1 q1 h1 => ?_)
      obtain ⟨own, x⟩ := r
      cases x with
      | int i => exact ⟨i, q1, Pst.now h1 R1⟩
      | _ => exact h1.elim
    · rw [e] at h
      exact h.elim
    · subst e
      cases hm
theorem snd_slc {a lo hi : ME} (hA : SndE G a) (hL : SndE G lo) (hH : SndE G hi) : SndE G (.slc a lo hi) := by
  intro k X cx W ok e' hm en S H ms σ st Q R h
  have hm1 : (match [e'] with
    | [.Subscript a' (.Slice lo' hi' none _) _] => mt a cx [a'] && (match lo' with
      | none => isNil lo
      | some l => mt lo cx [l]) && (match hi' with
      | none => isNil hi
      | some l => mt hi cx [l])
    | _ => false) = true := hm
  split at hm1
  · rename_i a' lo' hi' p pos e
    cases e
    obtain ⟨g1, g2, g3⟩ := and3 hm1
    refine ofPE (pe_slice sl_any peW poW poW) (opnd_ok hA ok g1 R h fun r v st1 S1 H1 ms1 x1 R1 l1 h1 => ?_)
    refine bound_ok hL ok g2 R1 (h1.bnd.imp fun b st2 S2 H2 ms2 _ x2 R2 h2 => ?_)
    refine bound_ok hH ok g3 R2 ((Pst.bnd h2).imp fun b2 st3 S3 H3 ms3 _ x3 R3 h3 => ?_)
    obtain ⟨d, e1, h4⟩ := h3.opt
    obtain ⟨r2, e2, h5⟩ := h4.val
    exact slc_ok R3 e2 ((l1.ext (x2.trans x3)).w R3 e1) fun v S' H' x R' hr => fin_val h5 x R' hr
  · cases hm1
theorem snd_rev {a : ME} (hA : SndE G a) : SndE G (.rev a) := by
  intro k X cx W ok e' hm en S H ms σ st Q R h
  have hm1 : (match [e'] with
    | [.Subscript a' (.Slice none none (some (.UnaryOp .USub (.Constant (.int 1) _ _) _)) _) _] => mt a cx [a']
    | _ => false) = true := hm
  split at hm1
  · rename_i a' _ _ _ _ _ e
    cases e
    refine ofPE (pe_revL peW) (one_ok hA ok hm1 R h fun dx vx st2 S2 H2 ms2 x2 R2 wx h2 => ?_)
    obtain ⟨r, e1, h3⟩ := h2.val
    obtain ⟨l, e2, e3⟩ : ∃ l, (dx = .lst l ∨ dx = .flst l) ∧ r = (true, .lst l.reverse) := by
      cases dx with
      | lst l => cases e1; exact ⟨l, .inl rfl, rfl⟩
      | flst l => cases e1; exact ⟨l, .inr rfl, rfl⟩
      | _ => cases e1
    subst e3
    obtain ⟨p, xs, e4, sq, rl⟩ := wx.list e2
    refine ⟨p, xs, e4, sq, fun q hq => ?_⟩
    obtain ⟨x', R', Ow⟩ := R2.laidOwn hq rl.reverse
    exact fin_val h3 x' R' ⟨q, _, rfl, rfl, Ow⟩
  · cases hm1
/-! ### displays -/
theorem snd_lst {as : ME} (hA : SndA G as) : SndE G (.lst as) := by
  intro k X cx W ok e' hm en S H ms σ st Q R h
  cases e' with
  | List es pos =>
    obtain ⟨g1, g2⟩ := and2 (show (isRow as && mt as cx es) = true from hm)
    refine ofPE (pe_lst paW) (hA ok g2 R (h.bnd.imp fun ds st1 S1 H1 ms1 _ x1 R1 h1 vs rv => ?_))
    obtain ⟨hl, h2⟩ := h1.ift
    refine ⟨by rw [sizeL, ← rv.len]; exact hl, fun p hp => ?_⟩
    obtain ⟨x', R', Ow⟩ := R1.laidOwn hp rv
    exact fin_val h2 x' R' ⟨p, _, rfl, rfl, Ow⟩
  | _ => cases hm
theorem snd_tup {as : ME} (hA : SndA G as) : SndE G (.tup as) := by
  intro k X cx W ok e' hm en S H ms σ st Q R h
  cases e' with
  | Tuple es n pos =>
    obtain ⟨g1, g2⟩ := and2 (show (isRow as && mt as cx es) = true from hm)
    refine ofPE (pe_tup paW) (hA ok g2 R (h.bnd.imp fun ds st1 S1 H1 ms1 _ x1 R1 h1 vs rv => ?_))
    obtain ⟨hl, h2⟩ := h1.ift
    refine ⟨by rw [sizeL, ← rv.len]; exact hl, fun p hp => ?_⟩
    obtain ⟨x', R'⟩ := R1.laidS (o := .tup vs) hp
    exact fin_val h2 x' R' ⟨p, vs, rfl, .inl ⟨.inr rfl, .inl upd_same⟩, rv.ext x'⟩
  | _ => cases hm
/-! ### built-ins -/
def b1F : B1 → Value
  | .len => .builtin "len" | .abs => .builtin "abs" | .int => .type "int" | .str => .type "str" | .list => .type "list" | .sum => .builtin "sum" | .all => .builtin "all" | .any => .builtin "any" | .sorted => .builtin "sorted"
def rB1 (K : PySem.W.Frag) : B1 → List V → Hp → VK → Prop
  | .len => fun xs H Q => ∃ x n, xs = [x] ∧ LenV K x H n ∧ Q (.int n) H
  | .abs => fun xs H Q => ∃ i, xs = [.int i] ∧ Q (.int (if i < 0 then -i else i)) H
  | .int => fun xs H Q => (∃ i, xs = [.int i] ∧ Q (.int i) H) ∨ ∃ k, xs = [.bl k] ∧ Q (.int (if k then 1 else 0)) H
  | .str => fun xs H Q => ∃ i, xs = [.int i] ∧ i.natAbs.log2 < 1920 ∧ Q (.str (toString i)) H
  | .list => fun xs H Q => ∃ p ys, xs = [.ref p] ∧ (SqL K H p ys ∨ SqT K H p ys) ∧ ∀ l, H l = none → Q (.ref l) (upd H l (.lst ys))
  | .sum => rSum K
  | .all => rAll K
  | .any => rAny K
  | .sorted => fun _ _ _ => False
theorem cr_b1 (hc : X.calm = true) : ∀ b : B1, CallR X (b1F b) (rB1 X.K b)
  | .len => call_len
  | .abs => call_abs
  | .int => call_int1
  | .str => call_str_int
  | .list => call_list_of
  | .sum => cr_sum hc
  | .all => cr_all hc
  | .any => cr_any hc
  | .sorted => fun _ _ _ _ _ _ _ _ _ h => h.elim
theorem pe_b1 (ok : XOk G k X cx W) {b : B1} {x : Str} {p pos : Pos} {a' : Expr} (g1 : glB cx.sc x = true) (e : x = b1N b) (hn : ∀ (es : List Expr) (env : Env), starEach (a' :: es) env = (false, eval a' env) :: starEach es env) :
    PE X (.Call (.Name x p) [a'] [] pos) (tCB (rB1 X.K b) (tCons (WE X a') tNil)) := by
  have hm : X.mg x = none := ok.g.blt x (by rw [e]; cases b <;> decide +kernel)
  subst e
  have hr := cr_b1 ok.calm b
  cases b <;> first
    | exact pe_callB hr (ok.gl g1) hm (by decide +kernel) (pa_cons peW pa_nil (hn _ _)) (by decide +kernel) (by decide +kernel) (hn _ _) rfl
    | exact pe_callTy hr (ok.gl g1) hm (by decide +kernel) (pa_cons peW pa_nil (hn _ _)) (by decide +kernel) (by decide +kernel) (hn _ _) rfl
theorem RepL.ints_of {K : PySem.W.Frag} {nm : Nat → Str} : ∀ {l : List D} {vs : List V} {ns : List Int}, RepL K nm S H ms l vs → intsD l = some ns → vs = ns.map V.int
  | [], [], _, _, h => by cases h; rfl
  | [], _ :: _, _, r, _ => r.elim
  | _ :: _, [], _, r, _ => r.elim
  | d :: l, v :: vs, ns, r, h => by
    cases d with
    | int i =>
      have h : (intsD l).map (i :: ·) = some ns := h
      obtain ⟨m, h1, h2⟩ := Option.map_eq_some_iff.mp h
      subst h2
      rw [RepL.ints_of r.2 h1, show v = .int i from r.1]
      rfl
    | _ => cases h
theorem RepL.bls_of {K : PySem.W.Frag} {nm : Nat → Str} : ∀ {l : List D} {vs : List V} {ns : List Bool}, RepL K nm S H ms l vs → blsD l = some ns → vs = ns.map V.bl
  | [], [], _, _, h => by cases h; rfl
  | [], _ :: _, _, r, _ => r.elim
  | _ :: _, [], _, r, _ => r.elim
  | d :: l, v :: vs, ns, r, h => by
    cases d with
    | bl i =>
      have h : (blsD l).map (i :: ·) = some ns := h
      obtain ⟨m, h1, h2⟩ := Option.map_eq_some_iff.mp h
      subst h2
      rw [RepL.bls_of r.2 h1, show v = .bl i from r.1]
      rfl
    | _ => cases h
theorem len_ok {K : PySem.W.Frag} {nm : Nat → Str} {d : D} {v : V} {n : Int} (h : lenD d = some n) (w : RepW K nm S H ms d v) : ∃ j : Nat, n = j ∧ LenV K v H j := by
  cases d with
  | str x =>
    have h : (if x.length ≤ 16777216 then some (x.length : Int) else none) = some n := h
    split at h
    · cases h
      cases (show v = .str x from w)
      exact ⟨_, rfl, by rw [sizeL]; assumption, rfl⟩
    · cases h
  | lst l =>
    cases h
    obtain ⟨a, xs, e, h1, r⟩ := w
    subst e
    exact ⟨_, rfl, .inl ⟨xs, SqL.of h1, r.len⟩⟩
  | flst l =>
    cases h
    obtain ⟨a, xs, e, h1, r⟩ := w
    subst e
    exact ⟨_, rfl, .inl ⟨xs, h1.sq, r.len⟩⟩
  | tup l =>
    cases h
    obtain ⟨a, xs, e, h1, r⟩ := w
    subst e
    exact ⟨_, rfl, .inr ⟨xs, h1.sq, r.len⟩⟩
  | _ => cases h
theorem b1_ok {K : PySem.W.Frag} {nm : Nat → Str} {b : B1} {x : D} {r : Bool × D} {vx : V} {Q : VK} (R : SR K nm en S H ms σ st) (h : b1D b x = some r) (hx : RepW K nm S H ms x vx)
    (q : ∀ v S' H', Ext S H ms S' H' ms → SR K nm en S' H' ms σ st → RV K nm en S' H' ms σ st r v → Q v H') : rB1 K b [vx] H Q := by
  unfold b1D at h
  split at h
  · obtain ⟨n, h1, h2⟩ := Option.map_eq_some_iff.mp h
    subst h2
    obtain ⟨j, e, hl⟩ := len_ok h1 hx
    exact ⟨vx, j, rfl, hl, q _ S H .refl R (by show V.int j = .int n; rw [e])⟩
  · cases h
    exact ⟨_, by rw [show vx = _ from hx], q _ S H .refl R rfl⟩
  · cases h
    exact .inl ⟨_, by rw [show vx = _ from hx], q _ S H .refl R rfl⟩
  · cases h
    exact .inr ⟨_, by rw [show vx = _ from hx], q _ S H .refl R rfl⟩
  · split at h
    · cases h
      exact ⟨_, by rw [show vx = _ from hx], by assumption, q _ S H .refl R rfl⟩
    · cases h
  · cases h
    obtain ⟨a, xs, e, h1, rl⟩ := hx
    refine ⟨a, xs, by rw [e], .inl (SqL.of h1), fun p hp => ?_⟩
    obtain ⟨x', R', Ow⟩ := R.laidOwn hp rl
    exact q _ _ _ x' R' ⟨p, _, rfl, rfl, Ow⟩
  · cases h
    obtain ⟨a, xs, e, h1, rl⟩ := hx
    refine ⟨a, xs, by rw [e], .inl h1.sq, fun p hp => ?_⟩
    obtain ⟨x', R', Ow⟩ := R.laidOwn hp rl
    exact q _ _ _ x' R' ⟨p, _, rfl, rfl, Ow⟩
  · cases h
    obtain ⟨a, xs, e, h1, rl⟩ := hx
    refine ⟨a, xs, by rw [e], .inr h1.sq, fun p hp => ?_⟩
    obtain ⟨x', R', Ow⟩ := R.laidOwn hp rl
    exact q _ _ _ x' R' ⟨p, _, rfl, rfl, Ow⟩
  · obtain ⟨ns, h1, h2⟩ := Option.map_eq_some_iff.mp h
    subst h2
    obtain ⟨a, xs, e, h3, rl⟩ := hx
    have e2 := RepL.ints_of rl h1
    subst e2
    exact ⟨a, ns, by rw [e], SqL.of h3, q _ S H .refl R rfl⟩
  · obtain ⟨ns, h1, h2⟩ := Option.map_eq_some_iff.mp h
    subst h2
    obtain ⟨a, xs, e, h3, rl⟩ := hx
    have e2 := RepL.bls_of rl h1
    subst e2
    exact ⟨a, ns, by rw [e], SqL.of h3, q _ S H .refl R rfl⟩
  · obtain ⟨ns, h1, h2⟩ := Option.map_eq_some_iff.mp h
    subst h2
    obtain ⟨a, xs, e, h3, rl⟩ := hx
    have e2 := RepL.bls_of rl h1
    subst e2
    exact ⟨a, ns, by rw [e], SqL.of h3, q _ S H .refl R rfl⟩
  · cases h
theorem snd_b1 {b : B1} {a : ME} (hA : SndE G a) : SndE G (.b1 b a) := by
  intro k X cx W ok e' hm en S H ms σ st Q R h
  have hm1 : (match [e'] with
    | [.Call (.Name x _) [a'] [] _] => glB cx.sc x && decide (x = b1N b) && mt a cx [a']
    | _ => false) = true := hm
  split at hm1
  · rename_i x p a' pos e
    cases e
    obtain ⟨g1, g2, g3⟩ := and3 hm1
    refine ofPE (pe_b1 ok g1 (of_decide_eq_true g2) (mt_nostar g3)) (one_ok hA ok g3 R h fun dx vx st2 S2 H2 ms2 x2 R2 wx h2 => ?_)
    obtain ⟨r, e1, h3⟩ := h2.val
    exact b1_ok R2 e1 wx fun v S' H' x R' hr => fin_val h3 x R' hr
  · cases hm1
def rB2 : B2 → List V → Hp → VK → Prop
  | .max => fun xs H Q => ∃ i j, xs = [.int i, .int j] ∧ Q (.int (if j > i then j else i)) H
  | .min => fun xs H Q => ∃ i j, xs = [.int i, .int j] ∧ Q (.int (if j < i then j else i)) H
theorem b2_ok {K : PySem.W.Frag} {nm : Nat → Str} {b : B2} {x y d : D} {v1 v2 : V} {Q : VK} (h : b2D b x y = some d) (r1 : Rep K nm S H ms x v1) (r2 : Rep K nm S H ms y v2) (q : ∀ v, Rep K nm S H ms d v → Q v H) : rB2 b [v1, v2] H Q := by
  unfold b2D at h
  split at h
  · cases h
    exact ⟨_, _, by rw [show v1 = _ from r1, show v2 = _ from r2], q _ rfl⟩
  · cases h
    exact ⟨_, _, by rw [show v1 = _ from r1, show v2 = _ from r2], q _ rfl⟩
  · cases h
theorem snd_b2 {b : B2} {a c : ME} (hA : SndE G a) (hC : SndE G c) : SndE G (.b2 b a c) := by
  intro k X cx W ok e' hm en S H ms σ st Q R h
  have hm1 : (match [e'] with
    | [.Call (.Name x _) [a', c'] [] _] => glB cx.sc x && decide (x = b2N b) && mt a cx [a'] && mt c cx [c']
    | _ => false) = true := hm
  split at hm1
  · rename_i x p a' c' pos e
    cases e
    obtain ⟨g0, g3, g4⟩ := and3 hm1
    obtain ⟨g1, g2⟩ := and2 g0
    have e := of_decide_eq_true g2
    have hm : X.mg x = none := ok.g.blt x (by rw [e]; cases b <;> decide +kernel)
    subst e
    have hp : PE X (.Call (.Name (b2N b) p) [a', c'] [] pos) (tCB (rB2 b) (tCons (WE X a') (tCons (WE X c') tNil))) := by
      have hpl : (backTo pos (starEach [c'] X.env)).any (·.1) = false := by rw [mt_nostar g4]; rfl
      cases b with
      | max => exact pe_callB (call_max2 ok.calm) (ok.gl g1) hm (by decide +kernel) (pa_cons peW (pa_cons peW pa_nil (mt_nostar g4 _ _)) (mt_nostar g3 _ _)) (by decide +kernel) (by decide +kernel) (mt_nostar g3 _ _) hpl
      | min => exact pe_callB (call_min2 ok.calm) (ok.gl g1) hm (by decide +kernel) (pa_cons peW (pa_cons peW pa_nil (mt_nostar g4 _ _)) (mt_nostar g3 _ _)) (by decide +kernel) (by decide +kernel) (mt_nostar g3 _ _) hpl
    refine ofPE hp (shE hA ok g3 R h fun r1 v1 st1 S1 H1 ms1 x1 R1 q1 h1 => ?_)
    refine shE hC ok g4 R1 h1 fun r2 v2 st2 S2 H2 ms2 x2 R2 q2 h2 => ?_
    obtain ⟨d, e1, h3⟩ := h2.opt
    exact b2_ok e1 (q1.ext x2) q2 fun v rv => fin_val h3 .refl R2 rv
  · cases hm1
/-! ### isinstance of built-in types -/
def tyS : Ty → String
  | .bool => "bool" | .int => "int" | .str => "str" | .list => "list" | .tuple => "tuple"
def kndD : D → String
  | .non => "NoneType" | .bl _ => "bool" | .int _ => "int" | .str _ => "str" | .lst _ => "list" | .flst _ => "list" | _ => "tuple"
theorem isi_kit {t : Ty} {d : D} {b : Bool} (h : isiD t d = some b) : kitB (kndD d) (tyS t) = some b := by
  cases t <;> cases d <;> first | (cases h; done) | (cases h; simp only [kndD, tyS]; decide +kernel)
theorem tyx_of {K : PySem.W.Frag} {nm : Nat → Str} {t : Ty} {d : D} {b : Bool} {v : V} (h : isiD t d = some b) (r : Rep K nm S H ms d v) : TyX K H v (.type (kndD d)) := by
  cases d with
  | non => cases (show v = .non from r); exact .base .non
  | bl b => cases (show v = .bl b from r); exact .base (.bl b)
  | int b => cases (show v = .int b from r); exact .base (.int b)
  | str b => cases (show v = .str b from r); exact .base (.str b)
  | lst l =>
    obtain ⟨a, xs, e, _, h1, _⟩ := r
    subst e
    exact .base (.lst h1)
  | flst l =>
    obtain ⟨a, xs, e, h1, _⟩ := r
    subst e
    rcases h1 with ⟨_, h1 | ⟨o, h1⟩⟩ | ⟨o, its, n, h1, h2, _⟩
    · exact .base (.lst h1)
    · exact .base (.frz h1)
    · exact .kList h1 h2
  | tup l =>
    obtain ⟨a, xs, e, h1, _⟩ := r
    subst e
    rcases h1 with ⟨_, h1 | ⟨o, h1⟩⟩ | ⟨o, its, n, h1, h2, _⟩
    · exact .base (.tup h1)
    · exact .fTuple h1
    · exact .kTuple h1 h2
  | _ => cases t <;> cases h
theorem snd_isi {t : Ty} {a : ME} (hA : SndE G a) : SndE G (.isi t a) := by
  intro k X cx W ok e' hm en S H ms σ st Q R h
  have hm1 : (match [e'] with
    | [.Call (.Name x _) [a', .Name y _] [] _] => glB cx.sc x && decide (x = ("isinstance" : Str)) && mt a cx [a'] && glB cx.sc y && decide (y = tyN t)
    | _ => false) = true := hm
  split at hm1
  · rename_i x p a' y p2 pos e
    cases e
    obtain ⟨g0, g4, g5⟩ := and3 hm1
    obtain ⟨g1, g2, g3⟩ := and3 g0
    have e1 := of_decide_eq_true g2
    have e2 := of_decide_eq_true g5
    have hx0 : X.mg x = none := ok.g.blt x (by rw [e1]; decide +kernel)
    have hy : X.mg y = none := ok.g.blt y (by rw [e2]; cases t <;> decide +kernel)
    subst e1 e2
    have ht : PE X (.Name (tyN t) p2) (tC (.ty (tyS t))) := pe_bltn (u := .type (tyS t)) (ok.gl g4) hy (by cases t <;> decide +kernel) rfl (by cases t <;> decide +kernel) (by cases t <;> decide +kernel)
    have hp := pe_callB (p := p) (pos := pos) call_isi (ok.gl g1) hx0 (by decide +kernel) (pa_cons (peW (X := X) (e := a')) (pa_cons ht pa_nil) (mt_nostar g3 _ _)) (by decide +kernel) (by decide +kernel) (mt_nostar g3 _ _) rfl
    refine ofPE hp (shE hA ok g3 R h fun r v st1 S1 H1 ms1 x1 R1 q1 h1 => ?_)
    obtain ⟨b, e1, h2⟩ := h1.opt
    exact ⟨v, .ty (tyS t), _, _, b, rfl, .ty _, tyx_of e1 q1, kit_ty (isi_kit e1), fin_val h2 .refl R1 rfl⟩
  · cases hm1
end
end Ev
set_option Elab.async false
set_option linter.all false
set_option maxRecDepth 100000
set_option maxHeartbeats 4000000
/-! Ev6: what is walked, comprehensions, lists that a name alone has; all trees. -/
namespace Ev
open PySem PySem.Spec L2
section
variable {G : Tab} {k : Nat} {X : Cx} {cx : MC} {W : WX} {en : Ent} {S : AS} {H : Hp} {ms : List Addr} {σ : L2.St} {st : Stt}
variable {K : PySem.W.Frag} {nm : Nat → Str}
/-! ### the turns -/
theorem intl_get {l : List Int} {i : Nat} {d : D} (h : (intl l)[i]? = some d) : ∃ n, l[i]? = some n ∧ d = .int n := by
  unfold intl at h
  rw [List.getElem?_map] at h
  obtain ⟨n, h1, h2⟩ := Option.map_eq_some_iff.mp h
  exact ⟨n, h1, h2.symm⟩
theorem rngI_get {lo hi : Int} {i : Nat} {n : Int} (h : (rngI lo hi)[i]? = some n) : n = lo + (i : Nat) ∧ i < (hi - lo).toNat := by
  unfold rngI at h
  rw [List.getElem?_map] at h
  obtain ⟨j, h1, h2⟩ := Option.map_eq_some_iff.mp h
  obtain ⟨h3, h4⟩ := List.getElem?_eq_some_iff.mp h1
  rw [List.getElem_range] at h4
  rw [List.length_range] at h3
  subst h4
  exact ⟨h2.symm, h3⟩
theorem rngI_len (lo hi : Int) : (rngI lo hi).length = (hi - lo).toNat := by simp [rngI]
theorem intl_len (l : List Int) : (intl l).length = l.length := by simp [intl]
theorem stays {S' : AS} {H' H'' : Hp} {ms' : List Addr} {d : D} {x : V} (e : H'' = H') (r : Rep K nm S' H' ms' d x) : ∀ en σ st, SR K nm en S' H' ms' σ st → ∃ S'', Ext S' H' ms' S'' H'' ms' ∧ SR K nm en S'' H'' ms' σ st ∧ Rep K nm S'' H'' ms' d x := by
  subst e
  exact fun _ _ _ R => ⟨S', .refl, R, r⟩
theorem walks_range (lo hi : Int) : Walks K nm (Itr lo (hi - lo).toNat) (intl (rngI lo hi)) S H ms := by
  intro S' H' ms' x
  refine ⟨fun i d h => ?_, ?_⟩
  · obtain ⟨n, h1, rfl⟩ := intl_get h
    obtain ⟨h2, h3⟩ := rngI_get h1
    refine ⟨h3, fun v H'' y => ?_⟩
    obtain ⟨e1, e2⟩ := y
    exact stays e1 (show v = .int n by rw [e2, h2])
  · show (hi - lo).toNat ≤ (intl (rngI lo hi)).length
    rw [intl_len, rngI_len]
    exact Nat.le_refl _
theorem walks_rangeC (lo c : Int) (n : Nat) {l : List Int} (hl : l = (List.range n).map fun (k : Nat) => lo + (k : Int) * c) : Walks K nm (Itc lo c n) (intl l) S H ms := by
  subst hl
  intro S' H' ms' x
  refine ⟨fun i d h => ?_, ?_⟩
  · obtain ⟨m, h1, rfl⟩ := intl_get h
    rw [List.getElem?_map] at h1
    obtain ⟨j, h3, h4⟩ := Option.map_eq_some_iff.mp h1
    obtain ⟨h5, h6⟩ := List.getElem?_eq_some_iff.mp h3
    rw [List.getElem_range] at h6
    rw [List.length_range] at h5
    subst h6
    refine ⟨h5, fun v H'' y => ?_⟩
    obtain ⟨e1, e2⟩ := y
    exact stays e1 (show v = .int m by rw [e2, ← h4])
  · show n ≤ (intl _).length
    simp [intl_len]
theorem walks_list {a : Addr} {xs : List V} {ds : List D} (f : FzL K S H a xs) (r : RepL K nm S H ms ds xs) : Walks K nm (Itl K a) ds S H ms := by
  intro S' H' ms' x
  have f' := x.fzl f
  have r' := r.ext x
  refine ⟨fun i d h => ?_, ⟨xs, f'.sq, by rw [r.len]; exact Nat.le_refl _⟩⟩
  obtain ⟨v, h1, h2⟩ := r'.get h
  refine ⟨⟨xs, v, f'.sq, h1⟩, fun u H'' y => ?_⟩
  obtain ⟨e1, e2⟩ := y
  have e3 := e2 xs f'.sq
  rw [h1] at e3
  cases e3
  exact stays e1 h2
theorem walks_tup {a : Addr} {xs : List V} {ds : List D} (f : TpS K S H a xs) (r : RepL K nm S H ms ds xs) : Walks K nm (Itt K a) ds S H ms := by
  intro S' H' ms' x
  have f' := x.tps f
  have r' := r.ext x
  refine ⟨fun i d h => ?_, ⟨xs, f'.sq, by rw [r.len]; exact Nat.le_refl _⟩⟩
  obtain ⟨v, h1, h2⟩ := r'.get h
  refine ⟨⟨xs, v, f'.sq, h1⟩, fun u H'' y => ?_⟩
  obtain ⟨e1, e2⟩ := y
  have e3 := e2 xs f'.sq
  rw [h1] at e3
  cases e3
  exact stays e1 h2
theorem walks_str (z : Str) : Walks K nm (Its z) (z.cps.toList.map fun c => .str ⟨#[c]⟩) S H ms := by
  intro S' H' ms' x
  refine ⟨fun i d h => ?_, ?_⟩
  · rw [List.getElem?_map] at h
    obtain ⟨c, h1, h2⟩ := Option.map_eq_some_iff.mp h
    rw [Array.getElem?_toList] at h1
    refine ⟨(Array.getElem?_eq_some_iff.mp h1).1, fun u H'' y => ?_⟩
    obtain ⟨e1, c', e2, e3⟩ := y
    rw [h1] at e2
    cases e2
    subst h2
    exact stays e1 e3
  · show z.cps.size ≤ _
    simp
theorem walks_rev {a : Addr} {xs : List V} {ds : List D} (f : FzL K S H a xs) (r : RepL K nm S H ms ds xs) : Walks K nm (Itv K a xs.length) ds.reverse S H ms := by
  intro S' H' ms' x
  have f' := x.fzl f
  have r' := r.ext x
  have hl := r.len
  refine ⟨fun i d h => ?_, by show xs.length ≤ ds.reverse.length; rw [List.length_reverse, hl]; exact Nat.le_refl _⟩
  have hi : i < ds.length := by
    have := (List.getElem?_eq_some_iff.mp h).1
    simpa using this
  rw [List.getElem?_reverse hi] at h
  obtain ⟨v, h1, h2⟩ := r'.get h
  rw [hl] at h1
  refine ⟨⟨by omega, xs, v, f'.sq, h1⟩, fun u H'' y => ?_⟩
  obtain ⟨e1, e2⟩ := y
  have e3 := e2 xs f'.sq
  rw [h1] at e3
  cases e3
  exact stays e1 h2
theorem walks_enum {a : Addr} {xs : List V} {ds : List D} (f : FzL K S H a xs) (r : RepL K nm S H ms ds xs) : Walks K nm (Ite K a) (enumD ds) S H ms := by
  intro S' H' ms' x
  have f' := x.fzl f
  have r' := r.ext x
  have hl : (enumD ds).length = ds.length := by simp [enumD]
  refine ⟨fun i d h => ?_, ⟨xs, f'.sq, by rw [hl, r.len]; exact Nat.le_refl _⟩⟩
  have h0 : ∃ d0, ds[i]? = some d0 ∧ d = .tup [.int (i : Nat), d0] := by
    unfold enumD at h
    rw [List.getElem?_map] at h
    obtain ⟨p, h1, h2⟩ := Option.map_eq_some_iff.mp h
    obtain ⟨h3, h4⟩ := List.getElem?_zip_eq_some.mp h1
    obtain ⟨h5, h6⟩ := List.getElem?_eq_some_iff.mp h3
    rw [List.getElem_range] at h6
    exact ⟨p.2, h4, by rw [← h2, ← h6]⟩
  obtain ⟨d0, h1, e0⟩ := h0
  subst e0
  obtain ⟨v, h2, h3⟩ := r'.get h1
  refine ⟨⟨xs, v, f'.sq, h2⟩, fun u H'' y => ?_⟩
  obtain ⟨T, z, e1, e2, e3, e4⟩ := y
  have e5 := e4 xs f'.sq
  rw [h2] at e5
  cases e5
  subst e1 e3
  intro en σ st R
  obtain ⟨x2, R2⟩ := R.laidS (o := .tup [.int (i : Nat), v]) e2
  exact ⟨_, x2, R2, T, _, rfl, .inl ⟨.inr rfl, .inl upd_same⟩, rfl, h3.ext x2, trivial⟩
theorem walks_zip {a b : Addr} {xs ys : List V} {ds es : List D} (f : FzL K S H a xs) (g : FzL K S H b ys) (r : RepL K nm S H ms ds xs) (q : RepL K nm S H ms es ys) : Walks K nm (Itz K a b) ((ds.zip es).map fun p => .tup [p.1, p.2]) S H ms := by
  intro S' H' ms' x
  have f' := x.fzl f
  have g' := x.fzl g
  have r' := r.ext x
  have q' := q.ext x
  have l1 := r'.len
  have l2 := q'.len
  refine ⟨fun i d h => ?_, ⟨xs, ys, f'.sq, g'.sq, by simp; omega⟩⟩
  rw [List.getElem?_map] at h
  obtain ⟨p, h1, h2⟩ := Option.map_eq_some_iff.mp h
  obtain ⟨h3, h4⟩ := List.getElem?_zip_eq_some.mp h1
  subst h2
  obtain ⟨v, v1, v2⟩ := r'.get h3
  obtain ⟨u, u1, u2⟩ := q'.get h4
  refine ⟨⟨xs, ys, v, u, f'.sq, g'.sq, v1, u1⟩, fun w H'' y => ?_⟩
  obtain ⟨T, z1, z2, e1, e2, e3, e4, e5⟩ := y
  have e4 := e4 xs f'.sq
  have e5 := e5 ys g'.sq
  rw [v1] at e4
  rw [u1] at e5
  cases e4
  cases e5
  subst e1 e3
  intro en σ st R
  obtain ⟨x2, R2⟩ := R.laidS (o := .tup [v, u]) e2
  exact ⟨_, x2, R2, T, _, rfl, .inl ⟨.inr rfl, .inl upd_same⟩, v2.ext x2, u2.ext x2, trivial⟩
/-! ### what is walked -/
theorem boot_range1 : bootBuiltins ("range" : Str) = some (.type "range") := by decide +kernel
def okR_of {i : Int} (h : okR i = true) : -(2 ^ 62) ≤ i ∧ i < 2 ^ 62 := by
  unfold okR at h
  obtain ⟨h1, h2⟩ := and2 h
  exact ⟨of_decide_eq_true h1, of_decide_eq_true h2⟩
theorem itr_rng1 {a : ME} (hA : SndE G a) : SndI G (.rng1 a) := by
  intro k X cx W ok e' tg hm _ en S H ms σ st R0 R h
  have hm1 : (match [e'] with
    | [.Call (.Name x _) [a'] [] _] => glB cx.sc x && decide (x = ("range" : Str)) && mt a cx [a']
    | _ => false) = true := hm
  split at hm1
  · rename_i x p a' pos e
    cases e
    obtain ⟨g1, g2, g3⟩ := and3 hm1
    have e1 := of_decide_eq_true g2
    subst e1
    have hx0 : X.mg ("range" : Str) = none := ok.g.blt _ (by decide +kernel)
    refine ofPI (pi_range1 (ok.gl g1) hx0 (pa_cons peW pa_nil (mt_nostar g3 _ _)) (mt_nostar g3 _ _)) (shE hA ok g3 R h fun r v st1 S1 H1 ms1 x1 R1 q1 h1 => ?_)
    obtain ⟨ds, e1, h2⟩ := h1.val
    obtain ⟨own, d⟩ := r
    cases d with
    | int j =>
      have e1 : (if okR j = true then some (intl (rngI 0 j)) else none) = some ds := e1
      split at e1
      · rename_i hj
        cases e1
        obtain ⟨b1, b2⟩ := okR_of hj
        refine ⟨j, by rw [show v = .int j from q1], b1, b2, ?_⟩
        have := walks_range (K := X.K) (nm := G.nm) (S := S1) (H := H1) (ms := ms1) 0 j
        rw [show (j - 0).toNat = j.toNat by rw [Int.sub_zero]] at this
        exact Pst.now h2 R1 _ this
      · cases e1
    | _ => cases e1
  · cases hm1
theorem itr_rng2 {a b : ME} (hA : SndE G a) (hB : SndE G b) : SndI G (.rng2 a b) := by
  intro k X cx W ok e' tg hm _ en S H ms σ st R0 R h
  have hm1 : (match [e'] with
    | [.Call (.Name x _) [a', b'] [] _] => glB cx.sc x && decide (x = ("range" : Str)) && mt a cx [a'] && mt b cx [b']
    | _ => false) = true := hm
  split at hm1
  · rename_i x p a' b' pos e
    cases e
    obtain ⟨g0, g3, g4⟩ := and3 hm1
    obtain ⟨g1, g2⟩ := and2 g0
    have e1 := of_decide_eq_true g2
    subst e1
    have hx0 : X.mg ("range" : Str) = none := ok.g.blt _ (by decide +kernel)
    refine ofPI (pi_range2 (ok.gl g1) hx0 (pa_cons peW (pa_cons peW pa_nil (mt_nostar g4 _ _)) (mt_nostar g3 _ _)) (by rw [mt_nostar g3, mt_nostar g4]; rfl) (mt_nostar g4 _ _)) (shE hA ok g3 R h fun r1 v1 st1 S1 H1 ms1 x1 R1 q1 h1 => ?_)
    refine shE hB ok g4 R1 h1 fun r2 v2 st2 S2 H2 ms2 x2 R2 q2 h2 => ?_
    obtain ⟨ds, e1, h3⟩ := h2.val
    have q1' := q1.ext x2
    obtain ⟨i, j, d1, d2, b1, b2, e2⟩ : ∃ i j, r1.2 = .int i ∧ r2.2 = .int j ∧ okR i = true ∧ okR j = true ∧ ds = intl (rngI i j) := by
      unfold rng2D at e1
      split at e1
      · split at e1
        · rename_i hb
          cases e1
          exact ⟨_, _, by assumption, by assumption, hb.1, hb.2, rfl⟩
        · cases e1
      · cases e1
    rw [d1] at q1'
    rw [d2] at q2
    subst e2
    obtain ⟨c1, c2⟩ := okR_of b1
    obtain ⟨c3, c4⟩ := okR_of b2
    exact ⟨i, j, by rw [show v1 = .int i from q1', show v2 = .int j from q2], ⟨c1, c2, c3, c4⟩, Pst.now h3 R2 _ (walks_range i j)⟩
  · cases hm1
theorem itr_rng3 {a b c : ME} (hA : SndE G a) (hB : SndE G b) (hC : SndE G c) : SndI G (.rng3 a b c) := by
  intro k X cx W ok e' tg hm _ en S H ms σ st R0 R h
  have hm1 : (match [e'] with
    | [.Call (.Name x _) [a', b', c'] [] _] => glB cx.sc x && decide (x = ("range" : Str)) && mt a cx [a'] && mt b cx [b'] && mt c cx [c']
    | _ => false) = true := hm
  split at hm1
  · rename_i x p a' b' c' pos e
    cases e
    obtain ⟨g0, g4, g5⟩ := and3 hm1
    obtain ⟨g1, g2, g3⟩ := and3 g0
    have e1 := of_decide_eq_true g2
    subst e1
    have hx0 : X.mg ("range" : Str) = none := ok.g.blt _ (by decide +kernel)
    refine ofPI (pi_range3 (ok.gl g1) hx0 (pa_cons peW (pa_cons peW (pa_cons peW pa_nil (mt_nostar g5 _ _)) (mt_nostar g4 _ _)) (mt_nostar g3 _ _)) (mt_nostar g3 _ _) (by rw [mt_nostar g4, mt_nostar g5]; rfl)) (shE hA ok g3 R h fun r1 v1 st1 S1 H1 ms1 x1 R1 q1 h1 => ?_)
    refine shE hB ok g4 R1 h1 fun r2 v2 st2 S2 H2 ms2 x2 R2 q2 h2 => ?_
    refine shE hC ok g5 R2 h2 fun r3 v3 st3 S3 H3 ms3 x3 R3 q3 h3 => ?_
    obtain ⟨ds, e1, h4⟩ := h3.val
    have q1' := q1.ext (x2.trans x3)
    have q2' := q2.ext x3
    obtain ⟨i, j, c, d1, d2, d3, b, e2⟩ : ∃ i j c, r1.2 = .int i ∧ r2.2 = .int j ∧ r3.2 = .int c ∧ (c ≠ 0 ∧ c.natAbs < 1073741824 ∧ Builtin.Range.small i j c = true) ∧ ds = intl (rngC i j c) := by
      unfold rng3D at e1
      split at e1
      · split at e1
        · rename_i hb
          cases e1
          exact ⟨_, _, _, by assumption, by assumption, by assumption, hb, rfl⟩
        · cases e1
      · cases e1
    rw [d1] at q1'
    rw [d2] at q2'
    rw [d3] at q3
    subst e2
    have hnn : 0 ≤ Builtin.Range.rangeSize i j c := by
      unfold Builtin.Range.rangeSize
      split
      · split
        · refine Int.add_nonneg (Int.ediv_nonneg ?_ ?_) (by decide) <;> omega
        · exact Int.le_refl 0
      · split
        · refine Int.add_nonneg (Int.ediv_nonneg ?_ ?_) (by decide) <;> omega
        · exact Int.le_refl 0
    refine ⟨i, j, c, (Builtin.Range.rangeSize i j c).toNat, by rw [show v1 = .int i from q1', show v2 = .int j from q2', show v3 = .int c from q3], ⟨b.1, b.2.1, b.2.2, by omega⟩, Pst.now h4 R3 _ (walks_rangeC i c _ rfl)⟩
  · cases hm1
theorem fz_of {x : D} {l : List D} {vx : V} (r : Rep K nm S H ms x vx) (h : x = .lst l ∨ x = .flst l) : ∃ a xs, vx = .ref a ∧ FzL K S H a xs ∧ RepL K nm S H ms l xs := by
  rcases h with rfl | rfl
  · obtain ⟨a, xs, e1, s, h1, r⟩ := r
    exact ⟨a, xs, e1, .inl ⟨s, .inl h1⟩, r⟩
  · obtain ⟨a, xs, e1, h1, r⟩ := r
    exact ⟨a, xs, e1, h1, r⟩
theorem itr_rvs {a : ME} (hA : SndE G a) : SndI G (.rvs a) := by
  intro k X cx W ok e' tg hm _ en S H ms σ st R0 R h
  have hm1 : (match [e'] with
    | [.Call (.Name x _) [a'] [] _] => glB cx.sc x && decide (x = ("reversed" : Str)) && mt a cx [a']
    | _ => false) = true := hm
  split at hm1
  · rename_i x p a' pos e
    cases e
    obtain ⟨g1, g2, g3⟩ := and3 hm1
    have e1 := of_decide_eq_true g2
    subst e1
    have hx0 : X.mg ("reversed" : Str) = none := ok.g.blt _ (by decide +kernel)
    refine ofPI (pi_reversed (ok.gl g1) hx0 (pa_cons peW pa_nil (mt_nostar g3 _ _)) (mt_nostar g3 _ _)) (shE hA ok g3 R h fun r v st1 S1 H1 ms1 x1 R1 q1 h1 => ?_)
    obtain ⟨ds, e1, h2⟩ := h1.val
    obtain ⟨l, e2, e3⟩ : ∃ l, (r.2 = .lst l ∨ r.2 = .flst l) ∧ ds = l.reverse := by
      unfold rvsD at e1
      split at e1
      · cases e1; exact ⟨_, .inl (by assumption), rfl⟩
      · cases e1; exact ⟨_, .inr (by assumption), rfl⟩
      · cases e1
    subst e3
    obtain ⟨a, xs, e4, f, rl⟩ := fz_of q1 e2
    exact ⟨a, xs, by rw [e4], f.sq, Pst.now h2 R1 _ (walks_rev f rl)⟩
  · cases hm1
theorem itr_enm {a : ME} (hA : SndE G a) : SndI G (.enm a) := by
  intro k X cx W ok e' tg hm ht en S H ms σ st R0 R h
  have hm1 : (match [e'] with
    | [.Call (.Name x _) [a'] [] _] => glB cx.sc x && decide (x = ("enumerate" : Str)) && mt a cx [a']
    | _ => false) = true := hm
  obtain ⟨elts, kk, tp, rfl⟩ := ht rfl
  split at hm1
  · rename_i x p a' pos e
    cases e
    obtain ⟨g1, g2, g3⟩ := and3 hm1
    have e1 := of_decide_eq_true g2
    subst e1
    have hx0 : X.mg ("enumerate" : Str) = none := ok.g.blt _ (by decide +kernel)
    refine ofPI (pi_enum (ok.gl g1) hx0 (pa_cons peW pa_nil (mt_nostar g3 _ _)) (mt_nostar g3 _ _)) (shE hA ok g3 R h fun r v st1 S1 H1 ms1 x1 R1 q1 h1 => ?_)
    obtain ⟨ds, e1, h2⟩ := h1.val
    obtain ⟨l, e2, e3⟩ : ∃ l, (r.2 = .lst l ∨ r.2 = .flst l) ∧ ds = enumD l := by
      unfold enmD at e1
      split at e1
      · cases e1; exact ⟨_, .inl (by assumption), rfl⟩
      · cases e1; exact ⟨_, .inr (by assumption), rfl⟩
      · cases e1
    subst e3
    obtain ⟨a, xs, e4, f, rl⟩ := fz_of q1 e2
    exact ⟨a, xs, by rw [e4], f.sq, Pst.now h2 R1 _ (walks_enum f rl)⟩
  · cases hm1
theorem itr_zip2 {a b : ME} (hA : SndE G a) (hB : SndE G b) : SndI G (.zip2 a b) := by
  intro k X cx W ok e' tg hm ht en S H ms σ st R0 R h
  have hm1 : (match [e'] with
    | [.Call (.Name x _) [a', b'] [] _] => glB cx.sc x && decide (x = ("zip" : Str)) && mt a cx [a'] && mt b cx [b']
    | _ => false) = true := hm
  obtain ⟨elts, kk, tp, rfl⟩ := ht rfl
  split at hm1
  · rename_i x p a' b' pos e
    cases e
    obtain ⟨g0, g3, g4⟩ := and3 hm1
    obtain ⟨g1, g2⟩ := and2 g0
    have e1 := of_decide_eq_true g2
    subst e1
    have hx0 : X.mg ("zip" : Str) = none := ok.g.blt _ (by decide +kernel)
    have hpl : (backTo pos (starEach [b'] X.env)).any (·.1) = false := by rw [mt_nostar g4]; rfl
    refine ofPI (pi_zip (ok.gl g1) hx0 (pa_cons peW (pa_cons peW pa_nil (mt_nostar g4 _ _)) (mt_nostar g3 _ _)) (mt_nostar g3 _ _) hpl) (shE hA ok g3 R h fun r1 v1 st1 S1 H1 ms1 x1 R1 q1 h1 => ?_)
    refine shE hB ok g4 R1 h1 fun r2 v2 st2 S2 H2 ms2 x2 R2 q2 h2 => ?_
    obtain ⟨ds, e1, h3⟩ := h2.val
    obtain ⟨l, m, e2, e3, e4⟩ : ∃ l m, (r1.2 = .lst l ∨ r1.2 = .flst l) ∧ (r2.2 = .lst m ∨ r2.2 = .flst m) ∧ ds = (l.zip m).map fun p => .tup [p.1, p.2] := by
      unfold zipD at e1
      split at e1
      · cases e1; exact ⟨_, _, .inl (by assumption), .inl (by assumption), rfl⟩
      · cases e1; exact ⟨_, _, .inl (by assumption), .inr (by assumption), rfl⟩
      · cases e1; exact ⟨_, _, .inr (by assumption), .inl (by assumption), rfl⟩
      · cases e1; exact ⟨_, _, .inr (by assumption), .inr (by assumption), rfl⟩
      · cases e1
    subst e4
    obtain ⟨a, xs, e5, f, rl⟩ := fz_of q1 e2
    obtain ⟨b, ys, e6, g, rm⟩ := fz_of q2 e3
    exact ⟨a, b, xs, ys, by rw [e5, e6], (x2.fzl f).sq, g.sq, Pst.now h3 R2 _ (walks_zip (x2.fzl f) g (rl.ext x2) rm)⟩
  · cases hm1
theorem revr_eq (lo hi : Int) : (rngI lo hi).reverse = (List.range (hi - lo).toNat).map fun (k : Nat) => (lo + (((hi - lo).toNat : Nat) : Int) - 1) + (k : Int) * (-1) := by
  refine List.ext_getElem (by simp [rngI]) fun i h1 h2 => ?_
  simp only [rngI, List.getElem_reverse, List.getElem_map, List.getElem_range, List.length_map, List.length_range] at h1 h2 ⊢
  have : i < (hi - lo).toNat := by simpa [rngI] using h1
  omega
theorem itr_rvr1 {a : ME} (hA : SndE G a) : SndI G (.rvr1 a) := by
  intro k X cx W ok e' tg hm _ en S H ms σ st R0 R h
  have hm1 : (match [e'] with
    | [.Call (.Name x _) [.Call (.Name y _) [a'] [] _] [] _] => glB cx.sc x && decide (x = ("reversed" : Str)) && glB cx.sc y && decide (y = ("range" : Str)) && mt a cx [a']
    | _ => false) = true := hm
  split at hm1
  · rename_i x p y p2 a' pos2 pos e
    cases e
    obtain ⟨g0, g4, g5⟩ := and3 hm1
    obtain ⟨g1, g2, g3⟩ := and3 g0
    have e1 := of_decide_eq_true g2
    have e2 := of_decide_eq_true g4
    subst e1 e2
    have hx0 : X.mg ("reversed" : Str) = none := ok.g.blt _ (by decide +kernel)
    have hx1 : X.mg ("range" : Str) = none := ok.g.blt _ (by decide +kernel)
    refine ofPI (pi_revR (ok.gl g1) hx0 (prg_1 (ok.gl g3) hx1 peW (mt_nostar g5 _ _)) rfl) (shE hA ok g5 R h fun r v st1 S1 H1 ms1 x1 R1 q1 h1 => ?_)
    obtain ⟨ds, e1, h2⟩ := h1.val
    obtain ⟨l, e3, e4⟩ := Option.map_eq_some_iff.mp e1
    obtain ⟨own, d⟩ := r
    cases d with
    | int j =>
      have e3 : (if okR j = true then some (intl (rngI 0 j)) else none) = some l := e3
      split at e3
      · rename_i hj
        cases e3
        obtain ⟨b1, b2⟩ := okR_of hj
        refine ⟨j, q1, by decide, by decide, b1, b2, ?_⟩
        subst e4
        have e5 : (intl (rngI 0 j)).reverse = intl (rngI 0 j).reverse := by simp [intl, List.map_reverse]
        rw [e5] at h2
        exact Pst.now h2 R1 _ (walks_rangeC _ _ _ (revr_eq 0 j))
      · cases e3
    | _ => cases e3
  · cases hm1
theorem itr_rvr2 {a b : ME} (hA : SndE G a) (hB : SndE G b) : SndI G (.rvr2 a b) := by
  intro k X cx W ok e' tg hm _ en S H ms σ st R0 R h
  have hm1 : (match [e'] with
    | [.Call (.Name x _) [.Call (.Name y _) [a', b'] [] _] [] _] => glB cx.sc x && decide (x = ("reversed" : Str)) && glB cx.sc y && decide (y = ("range" : Str)) && mt a cx [a'] && mt b cx [b']
    | _ => false) = true := hm
  split at hm1
  · rename_i x p y p2 a' b' pos2 pos e
    cases e
    obtain ⟨g0, g5, g6⟩ := and3 hm1
    obtain ⟨g0, g3, g4⟩ := and3 g0
    obtain ⟨g1, g2⟩ := and2 g0
    have e1 := of_decide_eq_true g2
    have e2 := of_decide_eq_true g4
    subst e1 e2
    have hx0 : X.mg ("reversed" : Str) = none := ok.g.blt _ (by decide +kernel)
    have hx1 : X.mg ("range" : Str) = none := ok.g.blt _ (by decide +kernel)
    refine ofPI (pi_revR (ok.gl g1) hx0 (prg_2 (ok.gl g3) hx1 peW peW (mt_nostar g5 _ _) (mt_nostar g6 _ _) (by rw [mt_nostar g6]; rfl)) rfl) (shE hA ok g5 R h fun r1 v1 st1 S1 H1 ms1 x1 R1 q1 h1 => ?_)
    refine shE hB ok g6 R1 h1 fun r2 v2 st2 S2 H2 ms2 x2 R2 q2 h2 => ?_
    obtain ⟨ds, e1, h3⟩ := h2.val
    obtain ⟨l, e3, e4⟩ := Option.map_eq_some_iff.mp e1
    have q1' := q1.ext x2
    obtain ⟨i, j, d1, d2, b1, b2, e2⟩ : ∃ i j, r1.2 = .int i ∧ r2.2 = .int j ∧ okR i = true ∧ okR j = true ∧ l = intl (rngI i j) := by
      unfold rng2D at e3
      split at e3
      · split at e3
        · rename_i hb
          cases e3
          exact ⟨_, _, by assumption, by assumption, hb.1, hb.2, rfl⟩
        · cases e3
      · cases e3
    rw [d1] at q1'
    rw [d2] at q2
    subst e2 e4
    obtain ⟨c1, c2⟩ := okR_of b1
    obtain ⟨c3, c4⟩ := okR_of b2
    refine ⟨i, j, q1', q2, c1, c2, c3, c4, ?_⟩
    have e5 : (intl (rngI i j)).reverse = intl (rngI i j).reverse := by simp [intl, List.map_reverse]
    rw [e5] at h3
    exact Pst.now h3 R2 _ (walks_rangeC _ _ _ (revr_eq i j))
  · cases hm1
/-- any expression that gives a list, a tuple, a text -/
theorem itr_of {m : ME} (hE : SndE G m) (hI : (ev G m).I = itrE (ev G m).E) : SndI G m := by
  intro k X cx W ok e' tg hm _ en S H ms σ st R0 R h
  rw [hI] at h
  have h' : Pst X.K G.nm en W σ S H ms (bnd ((ev G m).E st) fun x s1 => val (itrD x.2) s1) (fun ds st' S' H' ms' => ∀ J, Walks X.K G.nm J ds S' H' ms' → R0 J H') := h
  have lst : (∀ r st1, (ev G m).E st = some (.ok r st1) → ∃ l, r.2 = .lst l ∨ r.2 = .flst l) → WI X tg e' σ H R0 := fun hk => by
    refine ofPI (pi_list peW) (hE ok hm R (h'.bnd.imp fun r st1 S1 H1 ms1 er x1 R1 h1 v hv => ?_))
    obtain ⟨S2, x2, R2, q⟩ := R1.shared hv
    obtain ⟨l, hl⟩ := hk r st1 er
    obtain ⟨a, xs, e4, f, rl⟩ := fz_of q hl
    obtain ⟨ds, e1, h2⟩ := (Pst.ext h1 x2).val
    have e5 : ds = l := by
      rcases hl with hl | hl <;> (rw [hl] at e1; cases e1; rfl)
    subst e5
    exact ⟨a, e4, ⟨xs, f.sq⟩, Pst.now h2 R2 _ (walks_list f rl)⟩
  cases hq : (ev G m).E st with
  | none =>
    rw [hq] at h'
    exact h'.elim
  | some o =>
    cases o with
    | exc c fs l s => exact lst fun r st1 e => by rw [hq] at e; cases e
    | ok r st1 =>
      obtain ⟨own, d⟩ := r
      have one : ∀ r' st1', (ev G m).E st = some (.ok r' st1') → r' = (own, d) := fun r' st1' e => by
        rw [hq] at e
        cases e
        rfl
      cases d with
      | lst l => exact lst fun r' st1' e => ⟨l, .inl (by rw [one r' st1' e])⟩
      | flst l => exact lst fun r' st1' e => ⟨l, .inr (by rw [one r' st1' e])⟩
      | tup l =>
        refine ofPI (pi_tup peW) (hE ok hm R (h'.bnd.imp fun r st1 S1 H1 ms1 er x1 R1 h1 v hv => ?_))
        have er := one r st1 er
        subst er
        obtain ⟨S2, x2, R2, q⟩ := R1.shared hv
        obtain ⟨a, xs, e4, f, rl⟩ := q
        exact ⟨a, e4, ⟨xs, f.sq⟩, Pst.now (Pst.ext h1 x2) R2 _ (walks_tup f rl)⟩
      | str z =>
        refine ofPI (pi_str peW) (hE ok hm R (h'.bnd.imp fun r st1 S1 H1 ms1 er x1 R1 h1 v hv => ?_))
        have er := one r st1 er
        subst er
        obtain ⟨S2, x2, R2, q⟩ := R1.shared hv
        exact ⟨z, q, Pst.now (Pst.ext h1 x2) R2 _ (walks_str z)⟩
      | _ =>
        rw [hq] at h'
        exact h'.elim
/-! ### comprehensions -/
theorem XOk.blk (ok : XOk G k X cx W) (s : Shared) (H0 : Hp) (scope : Scope) (cl : List (Str × Addr)) (C : Addr) (fp : List Addr) :
    XOk G k (X.blk s H0 scope (compEnvC scope cl C X.env) fp) ⟨cx.N, relS scope cx.sc, cx.nm⟩ (fun _ _ _ _ => False) where
  nm := ok.nm
  hN := ok.hN
  nd := ok.nd
  sc := by
    show relS scope X.env.scope = relS scope cx.sc
    rw [ok.sc]
  calm := ok.calm
  tk := takes0
  room := ok.room
  g := ok.g
/-- a list under way is held apart -/
abbrev Ent.with (e : Ent) (p : Addr) (xs : List V) : Ent := { e with pins := (p, xs) :: e.pins }
theorem SR.pinNew {e : Ent} {p : Addr} (R : SR K nm e S H ms σ st) (hp : H p = none) : SR K nm (e.with p []) S (upd H p (.lst [])) ms σ st := by
  obtain ⟨x, R'⟩ := R.laid (o := .lst []) hp (S' := S) (fun _ h => h) (fun _ h => .inl h)
  refine ⟨R'.b, ⟨R'.fr.sub, R'.fr.new, R'.fr.pre, R'.fr.keep, R'.fr.stay⟩, R'.len, R'.slots, R'.inj, fun q hq => ?_⟩
  rcases List.mem_cons.mp hq with rfl | hq
  · refine ⟨upd_same, R.notS hp, R.notM hp, R.free hp, fun i d hi z => ?_⟩
    obtain ⟨q, ys, l', _, hs, _, g2, _⟩ := R.ownAt hi
    rw [z] at hs
    cases hs
    rw [hp] at g2
    cases g2
  · exact R'.pin q hq
theorem SR.pinUpd {e : Ent} {p : Addr} {xs ys : List V} (R : SR K nm (e.with p xs) S H ms σ st) (hd : ∀ q, q ∈ e.pins → q.1 ≠ p) : Ext S H ms S (upd H p (.lst ys)) ms ∧ SR K nm (e.with p ys) S (upd H p (.lst ys)) ms σ st := by
  obtain ⟨h1, h2, h3, h4, h5⟩ := R.pin (p, xs) List.mem_cons_self
  have x : Ext S H ms S (upd H p (.lst ys)) ms := ⟨fun _ s => s, fun a s => upd_ne fun z => h2 (z ▸ s), [], by simp⟩
  refine ⟨x, ⟨fun a s => ?_, R.b.s_ms, R.b.nd, R.b.len, fun n a o' g1 g2 => (R.b.obs n a o' g1 g2).ext x (upd_ne fun z => h3 (z ▸ List.mem_of_getElem? g1))⟩, ⟨R.fr.sub, R.fr.new, R.fr.pre, fun a o' h hn => ?_, fun a h => ?_⟩, R.len, fun j r hj => ?_, R.inj, fun q hq => ?_⟩
  · rw [upd_ne (show a ≠ p from fun z => h2 (z ▸ s))]
    exact R.b.s_in a s
  · have h' : e.H a = some o' := h
    rw [upd_ne (show a ≠ p from fun z => by
      have h4 : e.H p = none := h4
      rw [z, h4] at h'; cases h')]
    exact R.fr.keep a o' h hn
  · by_cases z : a = p
    · rw [z, upd_same]
      exact fun z => nomatch z
    · rw [upd_ne z]
      exact R.fr.stay a h
  · obtain ⟨o', e1, f1⟩ := R.slots j r hj
    refine ⟨o', e1, ?_⟩
    obtain ⟨own, d'⟩ := r
    cases own with
    | false =>
      obtain ⟨v, g1, g2⟩ := f1
      exact ⟨v, g1, g2.ext x⟩
    | true =>
      obtain ⟨q, zs, l2, g1, g2, g3, g4, g5, g6, g7⟩ := f1
      subst g2
      have qp : q ≠ p := fun w => h5 j _ hj (by rw [e1, w])
      exact ⟨q, zs, l2, g1, rfl, g3, (upd_ne qp).trans g4, g5.ext x, g6, g7⟩
  · rcases List.mem_cons.mp hq with rfl | hq
    · exact ⟨upd_same, h2, h3, h4, h5⟩
    · obtain ⟨g1, g2, g3, g4, g5⟩ := R.pin q (List.mem_cons_of_mem _ hq)
      exact ⟨(upd_ne (hd q hq)).trans g1, g2, g3, g4, g5⟩
theorem SR.unpin {e : Ent} {p : Addr} {xs : List V} {l : List D} {i : Nat} (R : SR K nm (e.with p xs) S H ms (σ.set i none) st) (hi : st.sl[i]? = some none) (hl : RepL K nm S H ms l xs) (hd : ∀ q, q ∈ e.pins → q.1 ≠ p) :
    SR K nm e S H ms σ st ∧ Own K nm e S H ms σ st l p := by
  have key : ∀ {j : Nat} {r : Bool × D}, st.sl[j]? = some (some r) → i ≠ j := fun {j r} hj z => by
    subst z
    rw [hi] at hj
    cases hj
  have pin : ∀ q, q ∈ (e.with p xs).pins → H q.1 = some (.lst q.2) ∧ ¬ S q.1 ∧ q.1 ∉ ms ∧ e.H q.1 = none ∧ ∀ (j : Nat) (d : D), st.sl[j]? = some (some (true, d)) → σ[j]? ≠ some (some (V.ref q.1)) := fun q hq => by
    obtain ⟨g1, g2, g3, g4, g5⟩ := R.pin q hq
    refine ⟨g1, g2, g3, g4, fun j d hj => ?_⟩
    have h6 := g5 j d hj
    rw [List.getElem?_set_ne (key hj)] at h6
    exact h6
  refine ⟨⟨R.b, ⟨R.fr.sub, R.fr.new, R.fr.pre, R.fr.keep, R.fr.stay⟩, by simpa using R.len, fun j r hj => ?_, fun j j' d1 d2 q hjk h1 h2 h3 h4 => ?_, fun q hq => pin q (List.mem_cons_of_mem _ hq)⟩, ?_⟩
  · obtain ⟨o, e1, h1⟩ := R.slots j r hj
    rw [List.getElem?_set_ne (key hj)] at e1
    exact ⟨o, e1, h1⟩
  · refine R.inj j j' d1 d2 q hjk h1 h2 ?_ ?_
    · rw [List.getElem?_set_ne (key h1)]
      exact h3
    · rw [List.getElem?_set_ne (key h2)]
      exact h4
  · obtain ⟨g1, g2, g3, g4, g5⟩ := pin (p, xs) List.mem_cons_self
    exact ⟨g2, g3, ⟨xs, g1, hl⟩, g4, g5, hd⟩
def teC (X : Cx) (scope : Scope) (elt : Expr) : TE := fun σ H Q => ∀ (s : Shared) (H0 : Hp) (C : Addr) (cl : List (Str × Addr)) (fp : List Addr), WE (X.blk s H0 scope (compEnvC scope cl C X.env) fp) elt σ H Q
def ttC (X : Cx) (scope : Scope) : List Expr → TT
  | [] => tYes
  | c' :: _ => fun σ H Q => ∀ (s : Shared) (H0 : Hp) (C : Addr) (cl : List (Str × Addr)) (fp : List Addr), WT (X.blk s H0 scope (compEnvC scope cl C X.env) fp) c' σ H Q
def ecC (G : Tab) (c : ME) : Option (Stt → Option (O Bool)) := if isNil c = true then none else some (ev G c).T
theorem set_none_set {l : List (Option V)} {i : Nat} {v : V} : wipe ((l.set i none).set i (some v)) [i] = wipe l [i] := by
  show (((l.set i none).set i (some v)).set i none) = l.set i none
  rw [List.set_set, List.set_set]
theorem comp_core {e c it : ME} {i : Nat} (hE : SndE G e) (hI : SndI G it) (hC : SndT G c) (ok : XOk G k X cx W) {x : Str} {xp : Pos} {elt iter : Expr} {ifs : List Expr} {scope : Scope} (g2 : mt it cx [iter] = true) (g8 : (!isEnm it) = true)
    (g6 : mt e ⟨cx.N, relS scope cx.sc, cx.nm⟩ [elt] = true) (g7 : (match ifs with
      | [] => isNil c
      | [c'] => !isNil c && mt c ⟨cx.N, relS scope cx.sc, cx.nm⟩ [c']
      | _ => false) = true) {Q : VK} (R : SR X.K G.nm en S H ms σ st)
    (h : Pst X.K G.nm en W σ S H ms ((ev G (.comp e i it c)).E st) (fun r st' S' H' ms' => ∀ v, RV X.K G.nm en S' H' ms' σ st' r v → Q v H')) :
    tLc (WI X (.Name x xp) iter) (gName i) (ttC X scope ifs) (teC X scope elt) ([(x, i)].map (·.2)) σ H Q := by
  refine hI ok g2 (fun he => by rw [he] at g8; cases g8) R (h.bnd.imp fun ds st1 S1 H1 ms1 _ x1 R1 h1 J hJ D hD => ?_)
  obtain ⟨hil, h2⟩ := h1.ift
  -- the turns over data come to an end
  obtain ⟨accF, stF, hrun, hfin⟩ : ∃ accF stF, compR i (ev G e).E (ecC G c) ds [] { st1 with sl := st1.sl.set i none } = some (.ok accF stF) ∧ Pst X.K G.nm en W σ S1 H1 ms1 (some (.ok (true, Ev.D.lst accF) stF)) (fun r st' S' H' ms' => ∀ v, RV X.K G.nm en S' H' ms' σ st' r v → Q v H') := by
    have h2 : Pst X.K G.nm en W σ S1 H1 ms1 (noExc (bnd (compR i (ev G e).E (ecC G c) ds [] { st1 with sl := st1.sl.set i none }) fun acc s2 => some (.ok (true, Ev.D.lst acc) s2))) (fun r st' S' H' ms' => ∀ v, RV X.K G.nm en S' H' ms' σ st' r v → Q v H') := h2
    cases q : compR i (ev G e).E (ecC G c) ds [] { st1 with sl := st1.sl.set i none } with
    | none =>
      rw [q] at h2
      exact h2.elim
    | some o =>
      cases o with
      | exc a b c d =>
        rw [q] at h2
        exact h2.elim
      | ok a s =>
        rw [q] at h2
        exact ⟨a, s, rfl, h2⟩
  have hpins : ∀ q, q ∈ en.pins → q.1 ≠ D := fun q hq => ne_of_none (R1.pin q hq).1 hD
  refine ⟨fun n m Hc => n ≤ ds.length ∧ m = ds.length - n ∧ ∃ S2 ms2 st2 acc dacc, Ext S1 H1 ms1 S2 Hc ms2 ∧ SR X.K G.nm (en.with D acc) S2 Hc ms2 (σ.set i none) st2 ∧ RepL X.K G.nm S2 Hc ms2 dacc acc ∧ st2.sl[i]? = some none ∧
    compR i (ev G e).E (ecC G c) (ds.drop n) dacc st2 = some (.ok accF stF), ⟨ds.length, Nat.zero_le _, rfl, S1, ms1, _, [], [], ?_, (R1.pinNew hD).wipe, trivial, ?_, hrun⟩, ?_⟩
  · exact (R1.laid hD (fun _ h => h) (fun _ h => .inl h)).1
  · exact List.getElem?_set_self hil
  rintro n m Hc ⟨hn, hm', S2, ms2, st2, acc, dacc, x2, R2, rl, hi2, hr2⟩
  obtain ⟨hgo, hstop⟩ := hJ S2 Hc ms2 x2
  by_cases hlt : n < ds.length
  · -- a turn
    have hd : ds[n]? = some ds[n] := List.getElem?_eq_getElem hlt
    have hdrop : ds.drop n = ds[n] :: ds.drop (n + 1) := List.drop_eq_getElem_cons hlt
    rw [hdrop] at hr2
    obtain ⟨go, yl⟩ := hgo n _ hd
    refine .inr ⟨go, fun H' => ∃ m', m' < m ∧ (n + 1 ≤ ds.length ∧ m' = ds.length - (n + 1) ∧ ∃ S2 ms2 st2 acc dacc, Ext S1 H1 ms1 S2 H' ms2 ∧ SR X.K G.nm (en.with D acc) S2 H' ms2 (σ.set i none) st2 ∧ RepL X.K G.nm S2 H' ms2 dacc acc ∧ st2.sl[i]? = some none ∧
      compR i (ev G e).E (ecC G c) (ds.drop (n + 1)) dacc st2 = some (.ok accF stF)), fun H' z => z, fun v H3 hy => ?_⟩
    obtain ⟨S3, x3, R3, rv⟩ := yl v H3 hy _ _ _ R2
    -- the name is bound
    have R4 := R3.setSh (i := i) rv
    refine ⟨set_none_set, ?_⟩
    have hr3 : (bnd (match ecC G c with
      | none => some (.ok true { st2 with sl := st2.sl.set i (some (false, ds[n])) })
      | some c => c { st2 with sl := st2.sl.set i (some (false, ds[n])) }) fun b s1 =>
        if b = true then bnd ((ev G e).E s1) fun r s2 => if dacc.length < 16777216 then compR i (ev G e).E (ecC G c) (ds.drop (n + 1)) (dacc ++ [r.2]) { s2 with sl := s2.sl.set i none } else none
        else compR i (ev G e).E (ecC G c) (ds.drop (n + 1)) dacc { s1 with sl := s1.sl.set i none }) = some (.ok accF stF) := hr2
    have hm2 : ds.length - (n + 1) < m := by omega
    -- the kept element
    have keep : ∀ {S4 : AS} {H4 : Hp} {ms4 : List Addr} {st4 : Stt}, Ext S2 Hc ms2 S4 H4 ms4 → SR X.K G.nm (en.with D acc) S4 H4 ms4 ((σ.set i none).set i (some v)) st4 → i < st4.sl.length →
        (bnd ((ev G e).E st4) fun r s2 => if dacc.length < 16777216 then compR i (ev G e).E (ecC G c) (ds.drop (n + 1)) (dacc ++ [r.2]) { s2 with sl := s2.sl.set i none } else none) = some (.ok accF stF) →
        teC X scope elt ((σ.set i none).set i (some v)) H4 fun y H5 => ∃ acc, H5 D = some (.lst acc) ∧ acc.length < sizeLine ∧ (∃ m', m' < m ∧ (n + 1 ≤ ds.length ∧ m' = ds.length - (n + 1) ∧ ∃ S2 ms2 st2 acc' dacc, Ext S1 H1 ms1 S2 (upd H5 D (.lst (acc ++ [y]))) ms2 ∧ SR X.K G.nm (en.with D acc') S2 (upd H5 D (.lst (acc ++ [y]))) ms2 (σ.set i none) st2 ∧ RepL X.K G.nm S2 (upd H5 D (.lst (acc ++ [y]))) ms2 dacc acc' ∧ st2.sl[i]? = some none ∧
          compR i (ev G e).E (ecC G c) (ds.drop (n + 1)) dacc st2 = some (.ok accF stF))) := by
      intro S4 H4 ms4 st4 x4 R4 hi4 hq s H0 C cl fp
      have ok' := ok.blk s H0 scope cl C fp
      cases q : (ev G e).E st4 with
      | none =>
        rw [q] at hq
        cases hq
      | some o =>
        cases o with
        | exc a b c d =>
          rw [q] at hq
          cases hq
        | ok r s2 =>
          rw [q] at hq
          have hq : (if dacc.length < 16777216 then compR i (ev G e).E (ecC G c) (ds.drop (n + 1)) (dacc ++ [r.2]) { s2 with sl := s2.sl.set i none } else none) = some (.ok accF stF) := hq
          split at hq
          · rename_i hsz
            refine hE ok' g6 R4 ?_
            rw [q]
            intro S5 H5 ms5 x5 R5 y hy
            obtain ⟨S6, x6, R6, ry⟩ := R5.shared hy
            obtain ⟨p1, p2, p3, p4, p5⟩ := R6.pin (D, acc) List.mem_cons_self
            have rl6 := rl.ext (x4.trans (x5.trans x6))
            obtain ⟨x7, R7⟩ := R6.pinUpd (e := en) (p := D) (xs := acc) (ys := acc ++ [y]) hpins
            have R8 := R7.wipe (i := i)
            rw [List.set_set] at R8
            have hl : acc.length = dacc.length := rl6.len.symm
            have hi6 : i < s2.sl.length := by
              have h7 : ((σ.set i none).set i (some v)).length = s2.sl.length := R6.len
              have h8 : ((σ.set i none).set i (some v)).length = st4.sl.length := R4.len
              omega
            refine ⟨acc, p1, by rw [sizeL, hl]; exact hsz, _, hm2, hlt, rfl, S6, ms5, _, acc ++ [y], dacc ++ [r.2], x2.trans (x4.trans (x5.trans (x6.trans x7))), ?_, (rl6.ext x7).append ⟨ry.ext x7, trivial⟩, List.getElem?_set_self hi6, hq⟩
            rw [List.set_set] at R8
            exact R8
          · cases hq
    have hi4 : i < (st2.sl.set i (some (false, ds[n]))).length := by
      rw [List.length_set]
      exact (List.getElem?_eq_some_iff.mp hi2).1
    match ifs, g7 with
    | [], g7 =>
      have ec : ecC G c = none := by
        unfold ecC
        rw [if_pos g7]
      have hr4 := hr3
      rw [show (match ecC G c with
        | none => some (O.ok true { st2 with sl := st2.sl.set i (some (false, ds[n])) })
        | some c => c { st2 with sl := st2.sl.set i (some (false, ds[n])) }) = some (O.ok true { st2 with sl := st2.sl.set i (some (false, ds[n])) }) by rw [ec]] at hr4
      rw [show ttC X scope [] = tYes from rfl]
      unfold tYes
      refine iteT ?_
      exact keep x3 R4 hi4 hr4
    | [c'], g7 =>
      obtain ⟨c1, c2⟩ := and2 g7
      have ec : ecC G c = some (ev G c).T := by
        unfold ecC
        rw [if_neg (by simpa using c1)]
      intro s H0 C cl fp
      have ok' := ok.blk s H0 scope cl C fp
      have hr4 := hr3
      rw [show (match ecC G c with
        | none => some (O.ok true { st2 with sl := st2.sl.set i (some (false, ds[n])) })
        | some c => c { st2 with sl := st2.sl.set i (some (false, ds[n])) }) = (ev G c).T { st2 with sl := st2.sl.set i (some (false, ds[n])) } by rw [ec]] at hr4
      refine hC ok' c2 R4 ?_
      cases q : (ev G c).T { st2 with sl := st2.sl.set i (some (false, ds[n])) } with
      | none =>
        rw [q] at hr4
        cases hr4
      | some o =>
        cases o with
        | exc a b c d =>
          rw [q] at hr4
          cases hr4
        | ok b s1 =>
          rw [q] at hr4
          intro S4 H4 ms4 x4 R5
          have hl1 : i < s1.sl.length := by
            have h7 : ((σ.set i none).set i (some v)).length = s1.sl.length := R5.len
            have h8 : ((σ.set i none).set i (some v)).length = (st2.sl.set i (some (false, ds[n]))).length := R4.len
            omega
          cases b with
          | true =>
            exact iteT (keep (x3.trans x4) R5 hl1 hr4)
          | false =>
            refine iteF ?_
            have R6 := R5.wipe (i := i)
            have e9 : (wipe σ (List.map (fun (x : Str × Nat) => x.snd) [(x, i)])).set i none = σ.set i none := by
              show (σ.set i none).set i none = _
              rw [List.set_set]
            rw [List.set_set, e9] at R6
            exact ⟨_, hm2, hlt, rfl, S4, ms4, _, acc, dacc, x2.trans (x3.trans x4), R6, rl.ext (x3.trans x4), List.getElem?_set_self hl1, hr4⟩
  · -- the end
    have en' : n = ds.length := by omega
    subst en'
    rw [List.drop_length] at hr2
    have hr2 : some (O.ok dacc st2) = some (O.ok accF stF) := hr2
    cases hr2
    obtain ⟨R3, Ow⟩ := R2.unpin (e := en) (p := D) (xs := acc) hi2 rl hpins
    exact .inl ⟨hstop, (hfin S2 Hc ms2 x2 R3) (.ref D) ⟨D, accF, rfl, rfl, Ow⟩⟩
theorem snd_comp {e c it : ME} {i : Nat} (hE : SndE G e) (hI : SndI G it) (hC : SndT G c) : SndE G (.comp e i it c) := by
  intro k X cx W ok e' hm en S H ms σ st Q R h
  have hm1 : (match [e'] with
    | [.ListComp elt [⟨.Name x _, iter, ifs, 0⟩] scope _] => decide (cx.N[i]? = some x) && mt it cx [iter] && notSet iter && !isEnm it && blkC cx.N cx.sc scope [(x, i)] && decide ((relS scope cx.sc).names.lookup x = some .local) &&
      mt e ⟨cx.N, relS scope cx.sc, cx.nm⟩ [elt] && (match ifs with
      | [] => isNil c
      | [c'] => !isNil c && mt c ⟨cx.N, relS scope cx.sc, cx.nm⟩ [c']
      | _ => false)
    | _ => false) = true := hm
  split at hm1
  · rename_i elt x xp iter ifs scope pos e0
    cases e0
    obtain ⟨g0, g6, g7⟩ := and3 hm1
    obtain ⟨g0, g4, g5⟩ := and3 g0
    obtain ⟨g0, g3, g8⟩ := and3 g0
    obtain ⟨g1, g2⟩ := and2 g0
    have hx : X.N[i]? = some x := ok.slot g1
    have hloc : ∀ (s : Shared) (H0 : Hp) (C : Addr) (cl : List (Str × Addr)) (fp : List Addr), (X.blk s H0 scope (compEnvC scope cl C X.env) fp).env.scope.names.lookup x = some .local := fun s H0 C cl fp => by
      show (relS scope X.env.scope).names.lookup x = _
      rw [ok.sc]
      exact of_decide_eq_true g5
    have hset : ∀ v, foldedSetIterable iter X.env v = pure v := fun v => by
      unfold foldedSetIterable
      split
      · cases g3
      · rfl
    have hblk : BlkOk X.N X.env.scope scope [(x, i)] := blkOk_by (by rw [ok.hN, ok.sc]; exact g4)
    have htt : ∀ (s : Shared) (H : Hp) (C : Addr) (cl : List (Str × Addr)) (fp : List Addr), PTs (X.blk s H scope (compEnvC scope cl C X.env) fp) ifs (ttC X scope ifs) := fun s H0 C cl fp => by
      match ifs, g7 with
      | [], _ => exact pts_nil
      | [c'], _ => exact pts_one ⟨fun pins s' σ H Q I h => h s H0 C cl fp pins s' I⟩
    refine ofPE (pe_lc ok.calm ok.nd (wi := WI X (.Name x xp) iter) (te := teC X scope elt) (tt := ttC X scope ifs) (g := gName i) piW hblk
      (fun s H0 C cl fp => pg_name ok.nd hx (.inl (hloc s H0 C cl fp)) (.inr (hloc s H0 C cl fp)))
      htt (fun s H0 C cl fp => ⟨fun pins s' σ H Q I h => h s H0 C cl fp pins s' I⟩) hset) ?_
    exact comp_core hE hI hC ok g2 g8 g6 g7 R h
  · cases hm1
/-! ### several names -/
def gAll : List Nat → TGs
  | [] => gNil
  | i :: is => gCons (gName i) (gAll is)
theorem setD_of {i : Nat} {r : Bool × D} {s s' : Stt} (h : setD i r s = some s') : i < s.sl.length ∧ s' = { s with sl := s.sl.set i (some r) } := by
  unfold setD at h
  split at h
  · cases h
    exact ⟨by assumption, rfl⟩
  · cases h
theorem wipe_set {σ : L2.St} {i : Nat} {v : Option V} : ∀ {js : List Nat}, i ∈ js → wipe (σ.set i v) js = wipe σ js
  | [], h => by simp at h
  | j :: js, h => by
    by_cases e : i ∈ js
    · show (wipe (σ.set i v) js).set j none = (wipe σ js).set j none
      rw [wipe_set e]
    · have hij : i = j := by
        rcases List.mem_cons.mp h with z | z
        · exact z
        · exact absurd z e
      subst hij
      have key : ∀ {ks : List Nat}, i ∉ ks → wipe (σ.set i v) ks = (wipe σ ks).set i v := fun {ks} hk => by
        induction ks with
        | nil => rfl
        | cons k ks ih =>
          have h1 : i ≠ k := fun z => hk (z ▸ List.mem_cons_self)
          have h2 : i ∉ ks := fun z => hk (List.mem_cons_of_mem _ z)
          show (wipe (σ.set i v) ks).set k none = ((wipe σ ks).set k none).set i v
          rw [ih h2, List.set_comm _ _ h1]
      show (wipe (σ.set i v) js).set i none = (wipe σ js).set i none
      rw [key e, List.set_set]
theorem gAllW {K : PySem.W.Frag} {nm : Nat → Str} {js : List Nat} : ∀ {is : List Nat} {l : List D} {vs : List V} {st st' : Stt} {σ : L2.St} {Q : L2.St → Hp → Prop}, (∀ i ∈ is, i ∈ js) → SR K nm en S H ms σ st → RepL K nm S H ms l vs → setAll is l st = some st' → (∀ σ', SR K nm en S H ms σ' st' → wipe σ' js = wipe σ js → Q σ' H) → gAll is vs σ H Q
  | [], [], [], st, st', σ, Q, _, R, _, h, q => by
    cases h
    exact ⟨rfl, q σ R rfl⟩
  | [], [], _ :: _, _, _, _, _, _, _, r, _, _ => r.elim
  | [], _ :: _, _, _, _, _, _, _, _, _, h, _ => nomatch h
  | _ :: _, [], _, _, _, _, _, _, _, _, h, _ => nomatch h
  | _ :: _, _ :: _, [], _, _, _, _, _, _, r, _, _ => r.elim
  | i :: is, d :: l, v :: vs, st, st', σ, Q, hj, R, r, h, q => by
    have h : (setD i (false, d) st).bind (setAll is l) = some st' := h
    cases e : setD i (false, d) st with
    | none =>
      rw [e] at h
      cases h
    | some s1 =>
      rw [e] at h
      obtain ⟨_, e2⟩ := setD_of e
      subst e2
      exact ⟨v, vs, rfl, gAllW (fun i hi => hj i (List.mem_cons_of_mem _ hi)) (R.setSh r.1) r.2 h fun σ' R' w => q σ' R' (w.trans (wipe_set (hj i List.mem_cons_self)))⟩
theorem setAll_len : ∀ {is : List Nat} {l : List D} {s s' : Stt}, setAll is l s = some s' → is.length = l.length
  | [], [], _, _, _ => rfl
  | [], _ :: _, _, _, h => nomatch h
  | _ :: _, [], _, _, h => nomatch h
  | i :: is, d :: l, s, s', h => by
    have h : (setD i (false, d) s).bind (setAll is l) = some s' := h
    cases e : setD i (false, d) s with
    | none =>
      rw [e] at h
      cases h
    | some s1 =>
      rw [e] at h
      rw [List.length_cons, List.length_cons, setAll_len h]
theorem setAll_sl : ∀ {is : List Nat} {l : List D} {s s' : Stt}, setAll is l s = some s' → s'.sl.length = s.sl.length
  | [], [], _, _, h => by cases h; rfl
  | [], _ :: _, _, _, h => nomatch h
  | _ :: _, [], _, _, h => nomatch h
  | i :: is, d :: l, s, s', h => by
    have h : (setD i (false, d) s).bind (setAll is l) = some s' := h
    cases e : setD i (false, d) s with
    | none =>
      rw [e] at h
      cases h
    | some s1 =>
      rw [e] at h
      obtain ⟨_, e2⟩ := setD_of e
      subst e2
      rw [setAll_sl h]
      simp
theorem SR.wipes (R : SR K nm e S H ms σ st) : ∀ is : List Nat, SR K nm e S H ms (L2.wipe σ is) { st with sl := wipeS is st.sl }
  | [] => R
  | i :: is => (R.wipes is).wipe (i := i)
theorem wipeS_len (sl : List (Option (Bool × D))) : ∀ is : List Nat, (wipeS is sl).length = sl.length
  | [] => rfl
  | i :: is => by
    show ((wipeS is sl).set i none).length = _
    rw [List.length_set, wipeS_len sl is]
theorem wipeS_at {sl : List (Option (Bool × D))} {i : Nat} (hi : i < sl.length) : ∀ {is : List Nat}, i ∈ is → (wipeS is sl)[i]? = some none
  | [], h => by simp at h
  | j :: js, h => by
    show ((wipeS js sl).set j none)[i]? = _
    rw [List.getElem?_set]
    by_cases e : j = i
    · rw [if_pos e, if_pos (by rw [wipeS_len]; omega)]
    · rw [if_neg e]
      rcases List.mem_cons.mp h with z | z
      · exact absurd z.symm e
      · exact wipeS_at hi z
theorem wipe_fix {σ : L2.St} : ∀ {js : List Nat}, wipe (wipe σ js) js = wipe σ js := fun {js} => by
  refine List.ext_getElem? fun j => ?_
  by_cases h : j ∈ js
  · have key : ∀ (τ : L2.St), τ.length = σ.length → (wipe τ js)[j]? = (wipe σ js)[j]? := fun τ hl => by
      have at_ : ∀ (τ : L2.St) {ks : List Nat}, j ∈ ks → j < τ.length → (wipe τ ks)[j]? = some none := fun τ {ks} hk hj => by
        induction ks with
        | nil => simp at hk
        | cons k ks ih =>
          show ((wipe τ ks).set k none)[j]? = _
          rw [List.getElem?_set]
          by_cases e : k = j
          · rw [if_pos e, if_pos (by rw [wipe_length]; omega)]
          · rw [if_neg e]
            rcases List.mem_cons.mp hk with z | z
            · exact absurd z.symm e
            · exact ih z
      by_cases hj : j < σ.length
      · rw [at_ τ h (by omega), at_ σ h hj]
      · rw [List.getElem?_eq_none (by rw [wipe_length]; omega), List.getElem?_eq_none (by rw [wipe_length]; omega)]
    exact key (wipe σ js) (wipe_length σ js)
  · rw [wipe_out h]
theorem SR.unpinW {e : Ent} {p : Addr} {xs : List V} {l : List D} {is : List Nat} (R : SR K nm (e.with p xs) S H ms (L2.wipe σ is) st) (hi : ∀ i ∈ is, st.sl[i]? = some none) (hl : RepL K nm S H ms l xs) (hd : ∀ q, q ∈ e.pins → q.1 ≠ p) :
    SR K nm e S H ms σ st ∧ Own K nm e S H ms σ st l p := by
  have key : ∀ {j : Nat} {r : Bool × D}, st.sl[j]? = some (some r) → j ∉ is := fun {j r} hj z => by
    rw [hi j z] at hj
    cases hj
  have pin : ∀ q, q ∈ (e.with p xs).pins → H q.1 = some (.lst q.2) ∧ ¬ S q.1 ∧ q.1 ∉ ms ∧ e.H q.1 = none ∧ ∀ (j : Nat) (d : D), st.sl[j]? = some (some (true, d)) → σ[j]? ≠ some (some (V.ref q.1)) := fun q hq => by
    obtain ⟨g1, g2, g3, g4, g5⟩ := R.pin q hq
    refine ⟨g1, g2, g3, g4, fun j d hj => ?_⟩
    have h6 := g5 j d hj
    rw [wipe_out (key hj)] at h6
    exact h6
  refine ⟨⟨R.b, ⟨R.fr.sub, R.fr.new, R.fr.pre, R.fr.keep, R.fr.stay⟩, by have := R.len; rw [wipe_length] at this; exact this, fun j r hj => ?_, fun j j' d1 d2 q hjk h1 h2 h3 h4 => ?_, fun q hq => pin q (List.mem_cons_of_mem _ hq)⟩, ?_⟩
  · obtain ⟨o, e1, h1⟩ := R.slots j r hj
    rw [wipe_out (key hj)] at e1
    exact ⟨o, e1, h1⟩
  · refine R.inj j j' d1 d2 q hjk h1 h2 ?_ ?_
    · rw [wipe_out (key h1)]
      exact h3
    · rw [wipe_out (key h2)]
      exact h4
  · obtain ⟨g1, g2, g3, g4, g5⟩ := pin (p, xs) List.mem_cons_self
    exact ⟨g2, g3, ⟨xs, g1, hl⟩, g4, g5, hd⟩
theorem comp_coreT {e c it : ME} {is : List Nat} (hE : SndE G e) (hI : SndI G it) (hC : SndT G c) (ok : XOk G k X cx W) {ts : List Expr} {kk : Nat} {xp : Pos} {own : List (Str × Nat)} (hown : own.map (·.2) = is) {elt iter : Expr} {ifs : List Expr} {scope : Scope} (g2 : mt it cx [iter] = true)
    (g6 : mt e ⟨cx.N, relS scope cx.sc, cx.nm⟩ [elt] = true) (g7 : (match ifs with
      | [] => isNil c
      | [c'] => !isNil c && mt c ⟨cx.N, relS scope cx.sc, cx.nm⟩ [c']
      | _ => false) = true) {Q : VK} (R : SR X.K G.nm en S H ms σ st)
    (h : Pst X.K G.nm en W σ S H ms ((ev G (.compt e is it c)).E st) (fun r st' S' H' ms' => ∀ v, RV X.K G.nm en S' H' ms' σ st' r v → Q v H')) :
    tLc (WI X (.Tuple ts kk xp) iter) (gTup X.K is.length (gAll is)) (ttC X scope ifs) (teC X scope elt) (own.map (·.2)) σ H Q := by
  rw [hown]
  refine hI ok g2 (fun _ => ⟨_, _, _, rfl⟩) R (h.bnd.imp fun ds st1 S1 H1 ms1 _ x1 R1 h1 J hJ D hD => ?_)
  obtain ⟨hil, h2⟩ := h1.ift
  have hil : ∀ i ∈ is, i < st1.sl.length := fun i hi => of_decide_eq_true (List.all_eq_true.mp hil i hi)
  -- the turns over data come to an end
  obtain ⟨accF, stF, hrun, hfin⟩ : ∃ accF stF, compRT is (ev G e).E (ecC G c) ds [] { st1 with sl := wipeS is st1.sl } = some (.ok accF stF) ∧ Pst X.K G.nm en W σ S1 H1 ms1 (some (.ok (true, Ev.D.lst accF) stF)) (fun r st' S' H' ms' => ∀ v, RV X.K G.nm en S' H' ms' σ st' r v → Q v H') := by
    have h2 : Pst X.K G.nm en W σ S1 H1 ms1 (noExc (bnd (compRT is (ev G e).E (ecC G c) ds [] { st1 with sl := wipeS is st1.sl }) fun acc s2 => some (.ok (true, Ev.D.lst acc) s2))) (fun r st' S' H' ms' => ∀ v, RV X.K G.nm en S' H' ms' σ st' r v → Q v H') := h2
    cases q : compRT is (ev G e).E (ecC G c) ds [] { st1 with sl := wipeS is st1.sl } with
    | none =>
      rw [q] at h2
      exact h2.elim
    | some o =>
      cases o with
      | exc a b c d =>
        rw [q] at h2
        exact h2.elim
      | ok a s =>
        rw [q] at h2
        exact ⟨a, s, rfl, h2⟩
  have hpins : ∀ q, q ∈ en.pins → q.1 ≠ D := fun q hq => ne_of_none (R1.pin q hq).1 hD
  refine ⟨fun n m Hc => n ≤ ds.length ∧ m = ds.length - n ∧ ∃ S2 ms2 st2 acc dacc, Ext S1 H1 ms1 S2 Hc ms2 ∧ SR X.K G.nm (en.with D acc) S2 Hc ms2 (wipe σ is) st2 ∧ RepL X.K G.nm S2 Hc ms2 dacc acc ∧ (∀ i ∈ is, st2.sl[i]? = some none) ∧
    compRT is (ev G e).E (ecC G c) (ds.drop n) dacc st2 = some (.ok accF stF), ⟨ds.length, Nat.zero_le _, rfl, S1, ms1, _, [], [], ?_, (R1.pinNew hD).wipes is, trivial, ?_, hrun⟩, ?_⟩
  · exact (R1.laid hD (fun _ h => h) (fun _ h => .inl h)).1
  · exact fun i hi => wipeS_at (hil i hi) hi
  rintro n m Hc ⟨hn, hm', S2, ms2, st2, acc, dacc, x2, R2, rl, hi2, hr2⟩
  obtain ⟨hgo, hstop⟩ := hJ S2 Hc ms2 x2
  by_cases hlt : n < ds.length
  · -- a turn
    have hd : ds[n]? = some ds[n] := List.getElem?_eq_getElem hlt
    have hdrop : ds.drop n = ds[n] :: ds.drop (n + 1) := List.drop_eq_getElem_cons hlt
    rw [hdrop] at hr2
    obtain ⟨go, yl⟩ := hgo n _ hd
    refine .inr ⟨go, fun H' => ∃ m', m' < m ∧ (n + 1 ≤ ds.length ∧ m' = ds.length - (n + 1) ∧ ∃ S2 ms2 st2 acc dacc, Ext S1 H1 ms1 S2 H' ms2 ∧ SR X.K G.nm (en.with D acc) S2 H' ms2 (wipe σ is) st2 ∧ RepL X.K G.nm S2 H' ms2 dacc acc ∧ (∀ i ∈ is, st2.sl[i]? = some none) ∧
      compRT is (ev G e).E (ecC G c) (ds.drop (n + 1)) dacc st2 = some (.ok accF stF)), fun H' z => z, fun v H3 hy => ?_⟩
    obtain ⟨S3, x3, R3, rv⟩ := yl v H3 hy _ _ _ R2
    -- the names are bound
    have hr0 : (match ds[n] with
      | .tup l => (setAll is l st2).bind fun s0 => bnd (match ecC G c with
        | none => some (.ok true s0)
        | some c => c s0) fun b s1 =>
          if b = true then bnd ((ev G e).E s1) fun r s2 => if dacc.length < 16777216 then compRT is (ev G e).E (ecC G c) (ds.drop (n + 1)) (dacc ++ [r.2]) { s2 with sl := wipeS is s2.sl } else none
          else compRT is (ev G e).E (ecC G c) (ds.drop (n + 1)) dacc { s1 with sl := wipeS is s1.sl }
      | _ => none) = some (.ok accF stF) := hr2
    generalize ds[n] = dn at rv hr0
    cases dn with
    | tup l =>
      have hr0 : (setAll is l st2).bind (fun s0 => bnd (match ecC G c with
        | none => some (.ok true s0)
        | some c => c s0) fun b s1 =>
          if b = true then bnd ((ev G e).E s1) fun r s2 => if dacc.length < 16777216 then compRT is (ev G e).E (ecC G c) (ds.drop (n + 1)) (dacc ++ [r.2]) { s2 with sl := wipeS is s2.sl } else none
          else compRT is (ev G e).E (ecC G c) (ds.drop (n + 1)) dacc { s1 with sl := wipeS is s1.sl }) = some (.ok accF stF) := hr0
      cases hsa : setAll is l st2 with
      | none =>
        rw [hsa] at hr0
        cases hr0
      | some s0 =>
      rw [hsa] at hr0
      have hr3 : (bnd (match ecC G c with
        | none => some (.ok true s0)
        | some c => c s0) fun b s1 =>
          if b = true then bnd ((ev G e).E s1) fun r s2 => if dacc.length < 16777216 then compRT is (ev G e).E (ecC G c) (ds.drop (n + 1)) (dacc ++ [r.2]) { s2 with sl := wipeS is s2.sl } else none
          else compRT is (ev G e).E (ecC G c) (ds.drop (n + 1)) dacc { s1 with sl := wipeS is s1.sl }) = some (.ok accF stF) := hr0
      obtain ⟨ta, txs, te, tf, trl⟩ := rv
      subst te
      refine ⟨ta, txs, rfl, tf.sq, by rw [← trl.len, setAll_len hsa], gAllW (js := is) (fun _ h => h) R3 trl hsa fun σ4 R4 hw => ?_⟩
      rw [wipe_fix] at hw
      refine ⟨hw, ?_⟩
      have hi2l : ∀ i ∈ is, i < s0.sl.length := fun i hi => by
        rw [setAll_sl hsa]
        exact (List.getElem?_eq_some_iff.mp (hi2 i hi)).1
      have hm2 : ds.length - (n + 1) < m := by omega
      -- the kept element
      have keep : ∀ {S4 : AS} {H4 : Hp} {ms4 : List Addr} {st4 : Stt}, Ext S2 Hc ms2 S4 H4 ms4 → SR X.K G.nm (en.with D acc) S4 H4 ms4 σ4 st4 → (∀ i ∈ is, i < st4.sl.length) →
          (bnd ((ev G e).E st4) fun r s2 => if dacc.length < 16777216 then compRT is (ev G e).E (ecC G c) (ds.drop (n + 1)) (dacc ++ [r.2]) { s2 with sl := wipeS is s2.sl } else none) = some (.ok accF stF) →
          teC X scope elt σ4 H4 fun y H5 => ∃ acc, H5 D = some (.lst acc) ∧ acc.length < sizeLine ∧ (∃ m', m' < m ∧ (n + 1 ≤ ds.length ∧ m' = ds.length - (n + 1) ∧ ∃ S2 ms2 st2 acc' dacc, Ext S1 H1 ms1 S2 (upd H5 D (.lst (acc ++ [y]))) ms2 ∧ SR X.K G.nm (en.with D acc') S2 (upd H5 D (.lst (acc ++ [y]))) ms2 (wipe σ is) st2 ∧ RepL X.K G.nm S2 (upd H5 D (.lst (acc ++ [y]))) ms2 dacc acc' ∧ (∀ i ∈ is, st2.sl[i]? = some none) ∧
            compRT is (ev G e).E (ecC G c) (ds.drop (n + 1)) dacc st2 = some (.ok accF stF))) := by
        intro S4 H4 ms4 st4 x4 R4 hi4 hq s H0 C cl fp
        have ok' := ok.blk s H0 scope cl C fp
        cases q : (ev G e).E st4 with
        | none =>
          rw [q] at hq
          cases hq
        | some o =>
          cases o with
          | exc a b c d =>
            rw [q] at hq
            cases hq
          | ok r s2 =>
            rw [q] at hq
            have hq : (if dacc.length < 16777216 then compRT is (ev G e).E (ecC G c) (ds.drop (n + 1)) (dacc ++ [r.2]) { s2 with sl := wipeS is s2.sl } else none) = some (.ok accF stF) := hq
            split at hq
            · rename_i hsz
              refine hE ok' g6 R4 ?_
              rw [q]
              intro S5 H5 ms5 x5 R5 y hy
              obtain ⟨S6, x6, R6, ry⟩ := R5.shared hy
              obtain ⟨p1, p2, p3, p4, p5⟩ := R6.pin (D, acc) List.mem_cons_self
              have rl6 := rl.ext (x4.trans (x5.trans x6))
              obtain ⟨x7, R7⟩ := R6.pinUpd (e := en) (p := D) (xs := acc) (ys := acc ++ [y]) hpins
              have R8 := R7.wipes is
              rw [hw] at R8
              have hl : acc.length = dacc.length := rl6.len.symm
              have hi6 : ∀ i ∈ is, i < s2.sl.length := fun i hi => by
                have h7 : σ4.length = s2.sl.length := R6.len
                have h8 : σ4.length = st4.sl.length := R4.len
                have := hi4 i hi
                omega
              exact ⟨acc, p1, by rw [sizeL, hl]; exact hsz, _, hm2, hlt, rfl, S6, ms5, _, acc ++ [y], dacc ++ [r.2], x2.trans (x4.trans (x5.trans (x6.trans x7))), R8, (rl6.ext x7).append ⟨ry.ext x7, trivial⟩, fun i hi => wipeS_at (hi6 i hi) hi, hq⟩
            · cases hq
      match ifs, g7 with
      | [], g7 =>
        have ec : ecC G c = none := by
          unfold ecC
          rw [if_pos g7]
        have hr4 := hr3
        rw [show (match ecC G c with
          | none => some (O.ok true s0)
          | some c => c s0) = some (O.ok true s0) by rw [ec]] at hr4
        rw [show ttC X scope [] = tYes from rfl]
        unfold tYes
        refine iteT ?_
        exact keep x3 R4 hi2l hr4
      | [c'], g7 =>
        obtain ⟨c1, c2⟩ := and2 g7
        have ec : ecC G c = some (ev G c).T := by
          unfold ecC
          rw [if_neg (by simpa using c1)]
        intro s H0 C cl fp
        have ok' := ok.blk s H0 scope cl C fp
        have hr4 := hr3
        rw [show (match ecC G c with
          | none => some (O.ok true s0)
          | some c => c s0) = (ev G c).T s0 by rw [ec]] at hr4
        refine hC ok' c2 R4 ?_
        cases q : (ev G c).T s0 with
        | none =>
          rw [q] at hr4
          cases hr4
        | some o =>
          cases o with
          | exc a b c d =>
            rw [q] at hr4
            cases hr4
          | ok b s1 =>
            rw [q] at hr4
            intro S4 H4 ms4 x4 R5
            have hl1 : ∀ i ∈ is, i < s1.sl.length := fun i hi => by
              have h7 : σ4.length = s1.sl.length := R5.len
              have h8 : σ4.length = s0.sl.length := R4.len
              have := hi2l i hi
              omega
            cases b with
            | true =>
              exact iteT (keep (x3.trans x4) R5 hl1 hr4)
            | false =>
              refine iteF ?_
              have R6 := R5.wipes is
              rw [hw] at R6
              exact ⟨_, hm2, hlt, rfl, S4, ms4, _, acc, dacc, x2.trans (x3.trans x4), R6, rl.ext (x3.trans x4), fun i hi => wipeS_at (hl1 i hi) hi, hr4⟩
    | _ => cases hr0
  · -- the end
    have en' : n = ds.length := by omega
    subst en'
    rw [List.drop_length] at hr2
    have hr2 : some (O.ok dacc st2) = some (O.ok accF stF) := hr2
    cases hr2
    obtain ⟨R3, Ow⟩ := R2.unpinW (e := en) (p := D) (xs := acc) hi2 rl hpins
    exact .inl ⟨hstop, (hfin S2 Hc ms2 x2 R3) (.ref D) ⟨D, accF, rfl, rfl, Ow⟩⟩
theorem each_namesB {N : List Str} {sc : Scope} : ∀ {is : List Nat} {ts : List Expr} (env : Env), mtNsB is N sc ts = true → (assignEach ts env).length = ts.length ∧ (assignEach ts env).findIdx? (·.1) = none ∧ is.length = ts.length ∧ ((nsOf ts).zip is).map (·.2) = is
  | [], ts, env, h => by
    cases ts with
    | nil => exact ⟨rfl, rfl, rfl, rfl⟩
    | cons t r => cases t <;> cases h
  | i :: is, ts, env, h => by
    cases ts with
    | nil => cases h
    | cons t r =>
      cases t with
      | Name x p =>
        obtain ⟨_, _, h3⟩ := and3 (show (decide (N[i]? = some x) && decide (sc.names.lookup x = some .local) && mtNsB is N sc r) = true from h)
        obtain ⟨a, b, c, d⟩ := each_namesB env h3
        refine ⟨?_, ?_, ?_, ?_⟩
        · show (assignEach r env).length + 1 = _
          rw [a]
          rfl
        · show ((false, assign (.Name x p) env) :: assignEach r env).findIdx? (·.1) = none
          rw [List.findIdx?_cons]
          simp [b]
        · rw [List.length_cons, List.length_cons, c]
        · show i :: ((nsOf r).zip is).map (·.2) = _
          rw [d]
      | _ => cases h
theorem pgs_namesB {Y : Cx} (nd : Y.N.Nodup) : ∀ {is : List Nat} {ts : List Expr}, mtNsB is Y.N Y.env.scope ts = true → PGs Y ts (gAll is)
  | [], ts, h => by
    cases ts with
    | nil => exact pgs_nil
    | cons t r => cases t <;> cases h
  | i :: is, ts, h => by
    cases ts with
    | nil => cases h
    | cons t r =>
      cases t with
      | Name x p =>
        obtain ⟨h1, h2, h3⟩ := and3 (show (decide (Y.N[i]? = some x) && decide (Y.env.scope.names.lookup x = some .local) && mtNsB is Y.N Y.env.scope r) = true from h)
        have h2 := of_decide_eq_true h2
        exact pgs_cons (pg_name nd (of_decide_eq_true h1) (.inl h2) (.inr h2)) (pgs_namesB nd h3) rfl
      | _ => cases h
theorem snd_compt {e c it : ME} {is : List Nat} (hE : SndE G e) (hI : SndI G it) (hC : SndT G c) : SndE G (.compt e is it c) := by
  intro k X cx W ok e' hm en S H ms σ st Q R h
  have hm1 : (match [e'] with
    | [.ListComp elt [⟨.Tuple ts _ _, iter, ifs, 0⟩] scope _] => mt it cx [iter] && notSet iter && blkC cx.N cx.sc scope ((nsOf ts).zip is) && mtNsB is cx.N (relS scope cx.sc) ts &&
      mt e ⟨cx.N, relS scope cx.sc, cx.nm⟩ [elt] && (match ifs with
      | [] => isNil c
      | [c'] => !isNil c && mt c ⟨cx.N, relS scope cx.sc, cx.nm⟩ [c']
      | _ => false)
    | _ => false) = true := hm
  split at hm1
  · rename_i elt ts kk xp iter ifs scope pos e0
    cases e0
    obtain ⟨g0, g6, g7⟩ := and3 hm1
    obtain ⟨g0, g4, g5⟩ := and3 g0
    obtain ⟨g2, g3⟩ := and2 g0
    have hns : ∀ (s : Shared) (H0 : Hp) (C : Addr) (cl : List (Str × Addr)) (fp : List Addr), mtNsB is (X.blk s H0 scope (compEnvC scope cl C X.env) fp).N (X.blk s H0 scope (compEnvC scope cl C X.env) fp).env.scope ts = true := fun s H0 C cl fp => by
      show mtNsB is X.N (relS scope X.env.scope) ts = true
      rw [ok.sc, ok.hN]
      exact g5
    have hset : ∀ v, foldedSetIterable iter X.env v = pure v := fun v => by
      unfold foldedSetIterable
      split
      · cases g3
      · rfl
    have hblk : BlkOk X.N X.env.scope scope ((nsOf ts).zip is) := blkOk_by (by rw [ok.hN, ok.sc]; exact g4)
    have htt : ∀ (s : Shared) (H : Hp) (C : Addr) (cl : List (Str × Addr)) (fp : List Addr), PTs (X.blk s H scope (compEnvC scope cl C X.env) fp) ifs (ttC X scope ifs) := fun s H0 C cl fp => by
      match ifs, g7 with
      | [], _ => exact pts_nil
      | [c'], _ => exact pts_one ⟨fun pins s' σ H Q I h => h s H0 C cl fp pins s' I⟩
    refine ofPE (pe_lc ok.calm ok.nd (wi := WI X (.Tuple ts kk xp) iter) (te := teC X scope elt) (tt := ttC X scope ifs) (g := gTup X.K is.length (gAll is)) piW hblk
      (fun s H0 C cl fp => by
        obtain ⟨a, b, c, _⟩ := each_namesB (X.blk s H0 scope (compEnvC scope cl C X.env) fp).env (hns s H0 C cl fp)
        exact pg_tup ok.calm (pgs_namesB (Y := X.blk s H0 scope (compEnvC scope cl C X.env) fp) ok.nd (hns s H0 C cl fp)) (by rw [a, c]) b)
      htt (fun s H0 C cl fp => ⟨fun pins s' σ H Q I h => h s H0 C cl fp pins s' I⟩) hset) ?_
    exact comp_coreT hE hI hC ok (each_namesB X.env g5).2.2.2 g2 g6 g7 R h
  · cases hm1
/-! ### a list that a name alone has -/
theorem ownB_of {i : Nat} (h : ownB i st = true) : ∃ l, st.sl[i]? = some (some (true, .lst l)) := by
  unfold ownB at h
  split at h
  · exact ⟨_, by assumption⟩
  · cases h
theorem snd_app {i : Nat} {e : ME} (hE : SndE G e) : SndE G (.app i e) := by
  intro k X cx W ok e' hm en S H ms σ st Q R h
  have hm1 : (match [e'] with
    | [.Call (.Attribute (.Name x _) y apos) [e'] [] pos] => visB cx.sc x && decide (cx.N[i]? = some x) && okN x && decide (y = ("append" : Str)) && mt e cx [e'] && (apos.endLine == pos.line)
    | _ => false) = true := hm
  split at hm1
  · rename_i x xp y apos e1 pos e0
    cases e0
    obtain ⟨g0, g5, g6⟩ := and3 hm1
    obtain ⟨g0, g4⟩ := and2 g0
    obtain ⟨g1, g2, g3⟩ := and3 g0
    have e2 := of_decide_eq_true g4
    subst e2
    have hv : PE X (.Name x xp) (tVar i) := pe_var (ok.slot g2) (ok.vis g1) (okN_1 g3).1 (okN_1 g3).2
    obtain ⟨ho, h1⟩ := Pst.ift h
    obtain ⟨l0, hl0⟩ := ownB_of ho
    obtain ⟨p, xs, l, e3, hp, nS, hH, rl, _⟩ := R.ownAt hl0
    refine ofPE (pe_bm PySem.F.plainAttrs_list PySem.F.slot_list_append PySem.F.type_list_append mt_append hv (pa_cons peW pa_nil (mt_nostar g5 _ _)) rfl (by rw [mt_nostar g5]; rfl) g6 (mt_nostar g5 _ _) rfl) ?_
    refine ⟨.ref p, hp, .inl ⟨rfl, xs, SqL.of hH⟩, ?_⟩
    refine shE hE ok g5 R h1 fun r v st1 S1 H1 ms1 x1 R1 q1 h2 => ?_
    obtain ⟨st2, e4, h3⟩ := h2.opt
    unfold appD at e4
    split at e4
    · rename_i l1 hl1
      split at e4
      · rename_i hsz
        cases e4
        obtain ⟨p', xs1, l1', e5, hp1, _, hH1, rl1, _⟩ := R1.ownAt hl1
        cases e5
        rw [hp] at hp1
        cases hp1
        refine ⟨p, xs1, v, rfl, rfl, hH1, by rw [sizeL, ← rl1.len]; exact hsz, ?_⟩
        obtain ⟨x2, R2⟩ := R1.ownSet (l' := l1 ++ [r.2]) hl1 hp (rl1.append (show RepL X.K G.nm S1 H1 ms1 [r.2] [v] from ⟨q1, trivial⟩))
        exact fin_val h3 x2 R2 rfl
      · cases e4
    · cases e4
  · cases hm1
theorem snd_pop {i : Nat} : SndE G (.pop i) := by
  intro k X cx W ok e' hm en S H ms σ st Q R h
  have hm1 : (match [e'] with
    | [.Call (.Attribute (.Name x _) y apos) [] [] pos] => visB cx.sc x && decide (cx.N[i]? = some x) && okN x && decide (y = ("pop" : Str)) && (apos.endLine == pos.line)
    | _ => false) = true := hm
  split at hm1
  · rename_i x xp y apos pos e0
    cases e0
    obtain ⟨g0, g4, g6⟩ := and3 hm1
    obtain ⟨g1, g2, g3⟩ := and3 g0
    have e2 := of_decide_eq_true g4
    subst e2
    have hv : PE X (.Name x xp) (tVar i) := pe_var (ok.slot g2) (ok.vis g1) (okN_1 g3).1 (okN_1 g3).2
    obtain ⟨r, e4, h3⟩ := Pst.opt h
    unfold popD at e4
    split at e4
    · rename_i l1 hl1
      obtain ⟨d, e5, e6⟩ := Option.map_eq_some_iff.mp e4
      subst e6
      obtain ⟨p, xs1, l1', e7, hp, _, hH, rl1, _⟩ := R.ownAt hl1
      cases e7
      obtain ⟨v, hv1, rv⟩ := rl1.get e5
      rw [rl1.len] at hv1
      refine ofPE (pe_bm0 PySem.F.plainAttrs_list PySem.F.slot_list_pop PySem.F.type_list_pop mt_pop hv rfl g6) ?_
      refine ⟨.ref p, hp, .inl ⟨rfl, xs1, SqL.of hH⟩, p, xs1, v, rfl, rfl, hH, hv1, ?_⟩
      obtain ⟨x2, R2⟩ := R.ownSet (l' := l1.dropLast) hl1 hp rl1.dropLast
      exact fin_val h3 x2 R2 (rv.ext x2)
    · cases e4
  · cases hm1
/-! ### making -/
mutual
theorem Rep.pure {ms' : List Addr} : ∀ {d : D} {v : V}, pureD d = true → Rep K nm S H ms d v → Rep K nm S H ms' d v
  | .non, _, _, h => h
  | .bl _, _, _, h => h
  | .int _, _, _, h => h
  | .str _, _, _, h => h
  | .lst l, _, p, h => by
    obtain ⟨a, xs, e, s, ha, r⟩ := h
    exact ⟨a, xs, e, s, ha, RepL.pure p r⟩
  | .flst l, _, p, h => by
    obtain ⟨a, xs, e, s, r⟩ := h
    exact ⟨a, xs, e, s, RepL.pure p r⟩
  | .tup l, _, p, h => by
    obtain ⟨a, xs, e, s, r⟩ := h
    exact ⟨a, xs, e, s, RepL.pure p r⟩
  | .ins c fs l, _, p, h => by
    obtain ⟨a, dx, vs, e, s, ha, hl, r⟩ := h
    exact ⟨a, dx, vs, e, s, ha, hl, RepL.pure p r⟩
  | .obj n, _, p, _ => nomatch p
theorem RepL.pure {ms' : List Addr} : ∀ {l : List D} {vs : List V}, pureD.pureL l = true → RepL K nm S H ms l vs → RepL K nm S H ms' l vs
  | [], [], _, _ => trivial
  | [], _ :: _, _, h => h.elim
  | _ :: _, [], _, h => h.elim
  | d :: ds, v :: vs, p, h => by
    obtain ⟨p1, p2⟩ := and2 (show (pureD d && pureD.pureL ds) = true from p)
    exact ⟨Rep.pure p1 h.1, RepL.pure p2 h.2⟩
end
theorem make_go (ok : XOk G k X cx W) {C f : Addr} {fd : FuncData} {ps : List Str} {sp : Sp} {dvs vs : List V} {dv us : List Value} {pins : List (Addr × Obj)} {s : Shared} {Q : VK} (M : Mk X.K C f) (F : FnOk X.prog X.w X.K X.mg X.base (L2.CX X.prog X.w) k f fd ps sp) (hb : Binds X.K fd ps dv) (hd : Vals dvs dv)
    (I : Inv X pins σ H s) (r : Vals vs us) (h : ∀ x dx, H x = none → H dx = none → dx ≠ x → sp (.ref x :: (vs ++ dvs)) (upd (upd H dx (.own x)) x (.ins C dx [])) (fun v H2 => v = .non ∧ Q (.ref x) H2) (fun cls d H' => W cls d σ H')) :
    wpAny (model X.prog X.w) X.A (call (.ref C) us) (EP X pins σ Q) X.xe s := by
  have hp := h (s.heap.objs.size + 1) s.heap.objs.size (I.hok.fresh (Nat.le_succ _)) (I.hok.fresh (Nat.le_refl _)) (Nat.ne_of_lt (Nat.lt_succ_self _))
  have J := Inv.made (C := C) I
  have r2 : Vals (V.ref (s.heap.objs.size + 1) :: (vs ++ dvs)) (Value.ref (s.heap.objs.size + 1) :: (us ++ dv)) := .cons rfl (r.append hd)
  have hl : (Value.ref (s.heap.objs.size + 1) :: us ++ dv).length = ps.length := by
    have e := r2.length
    rw [F.len _ _ _ _ hp] at e
    exact e.symm
  refine wpAny_call (make_map (f := f) I.kIn M.makes M.init (beq_iff_eq.mp M.fn) (codeAny_mono (F.run _ X.stack _ _ ⟨Value.ref (s.heap.objs.size + 1) :: us, []⟩ _ _ _ _ (ok.room.make C us []) (J.env0.make C us []) (hb _ (Value.ref (s.heap.objs.size + 1) :: us) J.kIn hl) r2 hp) fun res s' hq => ?_))
  cases res with
  | error er => exact ok.tk er s' (XE.of_call J (fun _ _ _ z => z) hq)
  | ok fl =>
    cases fl with
    | ret u =>
      obtain ⟨v, H', J3, rv, ev, q3⟩ := J.after hq
      subst ev
      exact ⟨rv, ⟨V.ref (s.heap.objs.size + 1), H', J3, rfl, q3⟩⟩
    | next => exact False.elim hq
    | brk => exact False.elim hq
    | cont => exact False.elim hq
theorem run_maker (ok : XOk G k X cx W) {c : Nat} {sem : FSem} (hs : G.mks c = some sem) {pins : List (Addr × Obj)} {s : Shared} {ds : List D} {vs : List V} {us : List Value} {Q : VK}
    (I : Inv X pins σ H s) (R : SR X.K G.nm en S H ms σ st) (rl : RepL X.K G.nm S H ms ds vs) (ru : Vals vs us) (h : Pst X.K G.nm en W σ S H ms (ofFR (sem ds st.ob) st) (fun r st' S' H' ms' => ∀ v, RV X.K G.nm en S' H' ms' σ st' r v → Q v H')) :
    wpAny (model X.prog X.w) X.A (call (.ref (He.ga X.K (G.nm c))) us) (EP X pins σ Q) X.xe s := by
  obtain ⟨_, init, hsem, f, fd, ps, sem0, F, M, hc⟩ := ok.g.mks c sem hs
  -- what is new
  have atx : ∀ {x dx a : Addr} {C : Addr} {o : HO}, H x = none → H dx = none → H a = some o → (upd (upd H dx (.own x)) x (.ins C dx [])) a = some o := fun {x dx a C o} hx hdx ha => by
    rw [upd_ne (ne_of_none ha hx), upd_ne (ne_of_none ha hdx)]
    exact ha
  have non : ∀ {x dx a : Addr} {C : Addr}, (upd (upd H dx (.own x)) x (.ins C dx [])) a = none → H a = none := fun {x dx a C} ha => by
    by_cases h1 : a = x
    · rw [h1, upd_same] at ha
      cases ha
    · rw [upd_ne h1] at ha
      by_cases h2 : a = dx
      · rw [h2, upd_same] at ha
        cases ha
      · rw [upd_ne h2] at ha
        exact ha
  rcases hsem with hsem | hsem
  · -- never changed
    subst hsem
    unfold mkF at h
    split at h
    · rename_i hpure
      cases q : init (.obj 0 :: ds) [.ins c [] []] with
      | none =>
        rw [q] at h
        exact h.elim
      | some r =>
        rw [q] at h
        obtain ⟨dd, dvs, dv, hd, rd, bd, hl, h0⟩ := hc _ _ r q
        refine make_go ok M F bd rd I ru fun x dx hx hdx hne => ?_
        have xS : ∀ a, S a → a ≠ x := fun a sa z => R.notS hx (z ▸ sa)
        have b1 : SB X.K G.nm S (upd (upd H dx (.own x)) x (.ins (He.ga X.K (G.nm c)) dx [])) [x] [.ins c [] []] := by
          refine ⟨fun a sa z => R.b.s_in a sa (non z), fun a ha sa => ?_, by simp, rfl, fun n a o h1 h2 => ?_⟩
          · have : a = x := by simpa using ha
            exact xS a sa this
          · cases n with
            | zero =>
              cases h1
              cases h2
              exact ⟨dx, [], upd_same, rfl, trivial⟩
            | succ n => simp at h1
        have x1 : Ext S H ms S (upd (upd H dx (.own x)) x (.ins (He.ga X.K (G.nm c)) dx [])) ms := ⟨fun _ z => z, fun a sa => by
          cases z : H a with
          | none => exact absurd z (R.b.s_in a sa)
          | some o => exact atx hx hdx z, [], by simp⟩
        have back : ∀ {S' : AS} {H' : Hp} {ms' : List Addr}, Fr ⟨S, upd (upd H dx (.own x)) x (.ins (He.ga X.K (G.nm c)) dx []), [x], []⟩ S' H' ms' → ∀ S'', (∀ a, S' a → S'' a) → (∀ a, S'' a → (S' a ∨ a = x) ∧ H' a ≠ none) → Fr ⟨S, H, ms, []⟩ S'' H' ms ∧ SB X.K G.nm S'' H' ms st.ob := by
          intro S' H' ms' f S'' hS hS2
          have kp : ∀ a o, H a = some o → H' a = some o := fun a o z => f.keep a o (atx hx hdx z) (by simpa using ne_of_none z hx)
          have x2 : Ext S H ms S'' H' ms := ⟨fun a sa => hS a (f.sub a sa), fun a sa => by
            cases z : H a with
            | none => exact absurd z (R.b.s_in a sa)
            | some o => exact kp a o z, [], by simp⟩
          refine ⟨⟨fun a sa => hS a (f.sub a sa), fun a sa => ?_, ⟨[], by simp, fun _ z => by simp at z⟩, fun a o z _ => kp a o z, fun a ha z => ?_⟩, fun a sa => (hS2 a sa).2, fun a ha sa => ?_, R.b.nd, R.b.len, fun n a o h1 h2 => ?_⟩
          · rcases (hS2 a sa).1 with sa | rfl
            · rcases f.new a sa with sa | sa
              · exact .inl sa
              · exact .inr (non sa)
            · exact .inr hx
          · cases z2 : H a with
            | none => exact R.b.there ha z2
            | some o =>
              rw [kp a o z2] at z
              cases z
          · rcases (hS2 a sa).1 with sa | rfl
            · rcases f.new a sa with sa | sa
              · exact R.b.s_ms a ha sa
              · exact R.b.there ha (non sa)
            · exact R.b.there ha hx
          · refine (R.b.obs n a o h1 h2).ext x2 ?_
            cases z2 : H a with
            | none => exact absurd z2 (R.b.there (List.mem_of_getElem? h1))
            | some o => exact kp a o z2
        refine ⟨S, [x], (.obj 0 :: ds) ++ dd, [.ins c [] []], r, b1, ?_, hl, h0, ?_⟩
        · refine RepL.append (l := .obj 0 :: ds) (vs := .ref x :: vs) ⟨⟨x, rfl, rfl⟩, RepL.pure hpure (rl.ext x1)⟩ (hd _ _ _)
        · cases r with
          | ret own d ob' =>
            intro v H' S' ms' f b rr
            have e0 : ms' = [x] ∨ ms'.length ≠ 1 := by
              obtain ⟨t, et, _⟩ := f.pre
              cases t with
              | nil => exact .inl et
              | cons a t => exact .inr (by rw [et]; simp)
            match own, d, ob', h, b, rr with
            | false, .non, [.ins c' fs l], h, b, rr =>
              have h : Pst X.K G.nm en W σ S H ms (ofFR (if c' = c ∧ fs.length = l.length ∧ pureD.pureL l = true then some (.ret false (.ins c fs l) st.ob) else none) st) (fun r st' S' H' ms' => ∀ v, RV X.K G.nm en S' H' ms' σ st' r v → Q v H') := h
              split at h
              · rename_i hcc
                obtain ⟨hcc, hfl, hpl⟩ := hcc
                subst hcc
                have e1 : ms' = [x] := e0.resolve_right (by rw [b.len]; simp)
                subst e1
                obtain ⟨dx', vs', g1, g2, g3⟩ := b.obs 0 x _ rfl rfl
                refine ⟨rr, ?_⟩
                obtain ⟨fr, sb⟩ := back f (fun a => S' a ∨ a = x) (fun _ z => .inl z) (fun a z => ⟨z, fun w => by
                  rcases z with z | z
                  · exact b.s_in a z w
                  · rw [z, g1] at w
                    cases w⟩)
                obtain ⟨x3, R3⟩ := R.called fr sb
                have x4 : Ext S' H' ms (fun a => S' a ∨ a = x) H' ms := ⟨fun _ z => .inl z, fun _ _ => rfl, [], by simp⟩
                exact (h _ _ _ x3 R3) (.ref x) ⟨x, dx', vs', rfl, .inr rfl, g1, g2, (RepL.pure hpl g3).ext x4⟩
              · exact h.elim
            | true, _, _, h, b, rr => exact h.elim
            | false, .non, [], h, b, rr => exact h.elim
            | false, .non, .dict _ :: _, h, b, rr => exact h.elim
            | false, .non, .ins _ _ _ :: _ :: _, h, b, rr => exact h.elim
            | false, .bl _, _, h, b, rr => exact h.elim
            | false, .int _, _, h, b, rr => exact h.elim
            | false, .str _, _, h, b, rr => exact h.elim
            | false, .lst _, _, h, b, rr => exact h.elim
            | false, .flst _, _, h, b, rr => exact h.elim
            | false, .tup _, _, h, b, rr => exact h.elim
            | false, .ins _ _ _, _, h, b, rr => exact h.elim
            | false, .obj _, _, h, b, rr => exact h.elim
          | exc y fs l ob' =>
            intro d H' S' ms' f b xr
            have h : Pst X.K G.nm en W σ S H ms (ofFR (if pureD.pureL l = true then some (.exc y fs l st.ob) else none) st) (fun r st' S' H' ms' => ∀ v, RV X.K G.nm en S' H' ms' σ st' r v → Q v H') := h
            split at h
            · rename_i hpl
              obtain ⟨fr, sb⟩ := back f S' (fun _ z => z) (fun a z => ⟨.inl z, b.s_in a z⟩)
              obtain ⟨x3, R3⟩ := R.called fr sb
              refine h d S' H' ms x3 R3 ?_
              rcases xr with xr | ⟨a, vs', e1, e2, e3, e4⟩
              · exact .inl xr
              · exact .inr ⟨a, vs', e1, e2, e3, RepL.pure hpl e4⟩
            · exact h.elim
    · exact h.elim
  · -- a thing that changes
    subst hsem
    unfold mkM at h
    cases q : init (.obj st.ob.length :: ds) (st.ob ++ [.ins c [] []]) with
    | none =>
      rw [q] at h
      exact h.elim
    | some r =>
      rw [q] at h
      obtain ⟨dd, dvs, dv, hd, rd, bd, hl, h0⟩ := hc _ _ r q
      refine make_go ok M F bd rd I ru fun x dx hx hdx hne => ?_
      have x1 : Ext S H ms S (upd (upd H dx (.own x)) x (.ins (He.ga X.K (G.nm c)) dx [])) (ms ++ [x]) := ⟨fun _ z => z, fun a sa => by
        cases z : H a with
        | none => exact absurd z (R.b.s_in a sa)
        | some o => exact atx hx hdx z, [x], rfl⟩
      have b1 : SB X.K G.nm S (upd (upd H dx (.own x)) x (.ins (He.ga X.K (G.nm c)) dx [])) (ms ++ [x]) (st.ob ++ [.ins c [] []]) := by
        refine ⟨fun a sa z => R.b.s_in a sa (non z), fun a ha sa => ?_, ?_, by simp [R.b.len], fun n a o h1 h2 => ?_⟩
        · rcases List.mem_append.mp ha with ha | ha
          · exact R.b.s_ms a ha sa
          · have : a = x := by simpa using ha
            exact R.notS hx (this ▸ sa)
        · refine List.nodup_append.mpr ⟨R.b.nd, by simp, fun a ha b hb => ?_⟩
          have : b = x := by simpa using hb
          intro z
          exact R.notM hx (by rw [← this, ← z]; exact ha)
        · by_cases hn : n < ms.length
          · rw [List.getElem?_append_left hn] at h1
            rw [List.getElem?_append_left (by rw [← R.b.len]; exact hn)] at h2
            refine (R.b.obs n a o h1 h2).ext x1 ?_
            cases z2 : H a with
            | none => exact absurd z2 (R.b.there (List.mem_of_getElem? h1))
            | some o => exact atx hx hdx z2
          · rw [List.getElem?_append_right (by omega)] at h1
            rw [List.getElem?_append_right (by rw [← R.b.len]; omega)] at h2
            rw [← R.b.len] at h2
            cases e : n - ms.length with
            | zero =>
              rw [e] at h1 h2
              cases h1
              cases h2
              exact ⟨dx, [], upd_same, rfl, trivial⟩
            | succ j =>
              rw [e] at h1
              simp at h1
      have back : ∀ {S' : AS} {H' : Hp} {ms' : List Addr}, Fr ⟨S, upd (upd H dx (.own x)) x (.ins (He.ga X.K (G.nm c)) dx []), ms ++ [x], []⟩ S' H' ms' → Fr ⟨S, H, ms, []⟩ S' H' ms' := by
        intro S' H' ms' f
        refine ⟨f.sub, fun a sa => ?_, ?_, fun a o z hn => ?_, fun a ha => f.stay a (List.mem_append_left _ ha)⟩
        · rcases f.new a sa with sa | sa
          · exact .inl sa
          · exact .inr (non sa)
        · obtain ⟨t, et, ht⟩ := f.pre
          refine ⟨x :: t, by rw [et]; simp, fun a ha => ?_⟩
          rcases List.mem_cons.mp ha with rfl | ha
          · exact hx
          · exact non (ht a ha)
        · refine f.keep a o (atx hx hdx z) fun hm => ?_
          rcases List.mem_append.mp hm with hm | hm
          · exact hn hm
          · have e : a = x := by simpa using hm
            have z : H a = some o := z
            rw [e, hx] at z
            cases z
      refine ⟨S, ms ++ [x], (.obj st.ob.length :: ds) ++ dd, st.ob ++ [.ins c [] []], r, b1, ?_, hl, h0, ?_⟩
      · refine RepL.append (l := .obj st.ob.length :: ds) (vs := .ref x :: vs) ⟨⟨x, rfl, ?_⟩, rl.ext x1⟩ (hd _ _ _)
        rw [← R.b.len, List.getElem?_append_right (Nat.le_refl _), Nat.sub_self]
        rfl
      · cases r with
        | ret own d ob' =>
          intro v H' S' ms' f b rr
          have hx' : ms'[st.ob.length]? = some x := by
            obtain ⟨t, et, _⟩ := f.pre
            have et : ms' = (ms ++ [x]) ++ t := et
            rw [et, ← R.b.len, List.append_assoc, List.getElem?_append_right (Nat.le_refl _), Nat.sub_self]
            rfl
          obtain ⟨x3, R3⟩ := R.called (back f) b
          match own, d, h, rr with
          | false, .non, h, rr => exact ⟨rr, (h _ _ _ x3 R3) (.ref x) ⟨x, rfl, hx'⟩⟩
          | true, _, h, rr => exact h.elim
          | false, .bl _, h, rr => exact h.elim
          | false, .int _, h, rr => exact h.elim
          | false, .str _, h, rr => exact h.elim
          | false, .lst _, h, rr => exact h.elim
          | false, .flst _, h, rr => exact h.elim
          | false, .tup _, h, rr => exact h.elim
          | false, .ins _ _ _, h, rr => exact h.elim
          | false, .obj _, h, rr => exact h.elim
        | exc y fs l ob' =>
          intro d H' S' ms' f b xr
          obtain ⟨x3, R3⟩ := R.called (back f) b
          exact h d S' H' ms' x3 R3 xr
theorem snd_make {i : Nat} {as : ME} (hA : SndA G as) : SndE G (.make i as) := by
  intro k X cx W ok e' hm en S H ms σ st Q R h
  obtain ⟨x, p, args, pos, rfl, g1, g2, g3, g4, g5⟩ := mt_call (mt_make hm)
  obtain ⟨sem, hf, h⟩ := Pst.opt h
  obtain ⟨hmg, init, _, f, fd, ps, sem0, _, M, _⟩ := ok.g.mks i sem hf
  exact call_by hA ok g1 g3 g4 g5 (by rw [g2, ok.nm]; exact hmg) M.kp R h fun I1 x1 R1 rv r1 h1 => run_maker ok hf I1 R1 rv r1 h1
/-! ### all trees -/
theorem notr_name : ∀ {x : Str} {p : Pos} {env : Env} (whole : PySem.Sem Value), isTrue (.Name x p) env whole = (do let v ← whole; standAt p; holding [v] (truthy v)) := fun _ => rfl
theorem all_snd : ∀ m : ME, Snd G m := by
  intro m
  induction m with
  | var i => exact ⟨snd_var i, tst_var i, arg_none rfl, itr_of (snd_var i) rfl⟩
  | con c => exact ⟨snd_con c, tst_of (snd_con c) rfl (fun {cx e' env} h whole => by cases e' <;> first | rfl | cases h), arg_none rfl, itr_of (snd_con c) rfl⟩
  | glob i => exact ⟨snd_glob i, tst_of (snd_glob i) rfl (fun {cx e' env} h whole => by cases e' <;> first | rfl | cases h), arg_none rfl, itr_of (snd_glob i) rfl⟩
  | bin op a b ha hb => exact ⟨snd_bin ha.E hb.E, tst_of (snd_bin ha.E hb.E) rfl (fun {cx e' env} h whole => by cases e' <;> first | rfl | cases h), arg_none rfl, itr_of (snd_bin ha.E hb.E) rfl⟩
  | neg a ha => exact ⟨snd_neg ha.E, tst_of (snd_neg ha.E) rfl (fun {cx e' env} h whole => by
      cases e' with
      | UnaryOp op a p => cases op <;> first | rfl | cases h
      | _ => first | rfl | cases h), arg_none rfl, itr_of (snd_neg ha.E) rfl⟩
  | cmp op a b ha hb => exact ⟨snd_cmp ha.E hb.E, tst_cmp ha.E hb.E, arg_none rfl, itr_of (snd_cmp ha.E hb.E) rfl⟩
  | chain o1 o2 a b c ha hb hc => exact ⟨snd_chain ha.E hb.E hc.E, tst_chain ha.E hb.E hc.E, arg_none rfl, itr_of (snd_chain ha.E hb.E hc.E) rfl⟩
  | not a ha => exact ⟨snd_not ha.E, tst_not ha.T, arg_none rfl, itr_of (snd_not ha.E) rfl⟩
  | and a b ha hb => exact ⟨snd_and ha.E hb.E, tst_and ha.T hb.T, arg_none rfl, itr_of (snd_and ha.E hb.E) rfl⟩
  | or a b ha hb => exact ⟨snd_or ha.E hb.E, tst_or ha.T hb.T, arg_none rfl, itr_of (snd_or ha.E hb.E) rfl⟩
  | ite c a b hc ha hb => exact ⟨snd_ite hc.T ha.E hb.E, tst_none rfl, arg_none rfl, itr_of (snd_ite hc.T ha.E hb.E) rfl⟩
  | call i as ha => exact ⟨snd_call ha.A, tst_of (snd_call ha.A) rfl (fun {cx e' env} h whole => by cases e' <;> first | rfl | cases h), arg_none rfl, itr_of (snd_call ha.A) rfl⟩
  | make i as ha => exact ⟨snd_make ha.A, tst_of (snd_make ha.A) rfl (fun {cx e' env} h whole => by cases e' <;> first | rfl | cases h), arg_none rfl, itr_of (snd_make ha.A) rfl⟩
  | meth i o as ho ha => exact ⟨snd_meth ho.E ha.A, tst_of (snd_meth ho.E ha.A) rfl (fun {cx e' env} h whole => by cases e' <;> first | rfl | cases h), arg_none rfl, itr_of (snd_meth ho.E ha.A) rfl⟩
  | attr f o ho => exact ⟨snd_attr ho.E, tst_of (snd_attr ho.E) rfl (fun {cx e' env} h whole => by cases e' <;> first | rfl | cases h), arg_none rfl, itr_of (snd_attr ho.E) rfl⟩
  | idx a b ha hb => exact ⟨snd_idx ha.E hb.E, tst_of (snd_idx ha.E hb.E) rfl (fun {cx e' env} h whole => by cases e' <;> first | rfl | cases h), arg_none rfl, itr_of (snd_idx ha.E hb.E) rfl⟩
  | slc a lo hi ha hl hh => exact ⟨snd_slc ha.E hl.E hh.E, tst_of (snd_slc ha.E hl.E hh.E) rfl (fun {cx e' env} h whole => by cases e' <;> first | rfl | cases h), arg_none rfl, itr_of (snd_slc ha.E hl.E hh.E) rfl⟩
  | rev a ha => exact ⟨snd_rev ha.E, tst_of (snd_rev ha.E) rfl (fun {cx e' env} h whole => by cases e' <;> first | rfl | cases h), arg_none rfl, itr_of (snd_rev ha.E) rfl⟩
  | lst as ha => exact ⟨snd_lst ha.A, tst_of (snd_lst ha.A) rfl (fun {cx e' env} h whole => by cases e' <;> first | rfl | cases h), arg_none rfl, itr_of (snd_lst ha.A) rfl⟩
  | tup as ha => exact ⟨snd_tup ha.A, tst_of (snd_tup ha.A) rfl (fun {cx e' env} h whole => by cases e' <;> first | rfl | cases h), arg_none rfl, itr_of (snd_tup ha.A) rfl⟩
  | b1 b a ha => exact ⟨snd_b1 ha.E, tst_of (snd_b1 ha.E) rfl (fun {cx e' env} h whole => by cases e' <;> first | rfl | cases h), arg_none rfl, itr_of (snd_b1 ha.E) rfl⟩
  | b2 b a c ha hc => exact ⟨snd_b2 ha.E hc.E, tst_of (snd_b2 ha.E hc.E) rfl (fun {cx e' env} h whole => by cases e' <;> first | rfl | cases h), arg_none rfl, itr_of (snd_b2 ha.E hc.E) rfl⟩
  | isi t a ha => exact ⟨snd_isi ha.E, tst_of (snd_isi ha.E) rfl (fun {cx e' env} h whole => by cases e' <;> first | rfl | cases h), arg_none rfl, itr_of (snd_isi ha.E) rfl⟩
  | comp e i it c he hi hc => exact ⟨snd_comp he.E hi.I hc.T, tst_of (snd_comp he.E hi.I hc.T) rfl (fun {cx e' env} h whole => by cases e' <;> first | rfl | cases h), arg_none rfl, itr_of (snd_comp he.E hi.I hc.T) rfl⟩
  | compt e is it c he hi hc => exact ⟨snd_compt he.E hi.I hc.T, tst_of (snd_compt he.E hi.I hc.T) rfl (fun {cx e' env} h whole => by cases e' <;> first | rfl | cases h), arg_none rfl, itr_of (snd_compt he.E hi.I hc.T) rfl⟩
  | app i e he => exact ⟨snd_app he.E, tst_of (snd_app he.E) rfl (fun {cx e' env} h whole => by cases e' <;> first | rfl | cases h), arg_none rfl, itr_of (snd_app he.E) rfl⟩
  | pop i => exact ⟨snd_pop, tst_of snd_pop rfl (fun {cx e' env} h whole => by cases e' <;> first | rfl | cases h), arg_none rfl, itr_of snd_pop rfl⟩
  | rng1 a ha => exact ⟨exp_none rfl, tst_none rfl, arg_none rfl, itr_rng1 ha.E⟩
  | rng2 a b ha hb => exact ⟨exp_none rfl, tst_none rfl, arg_none rfl, itr_rng2 ha.E hb.E⟩
  | rng3 a b c ha hb hc => exact ⟨exp_none rfl, tst_none rfl, arg_none rfl, itr_rng3 ha.E hb.E hc.E⟩
  | rvs a ha => exact ⟨exp_none rfl, tst_none rfl, arg_none rfl, itr_rvs ha.E⟩
  | rvr1 a ha => exact ⟨exp_none rfl, tst_none rfl, arg_none rfl, itr_rvr1 ha.E⟩
  | rvr2 a b ha hb => exact ⟨exp_none rfl, tst_none rfl, arg_none rfl, itr_rvr2 ha.E hb.E⟩
  | enm a ha => exact ⟨exp_none rfl, tst_none rfl, arg_none rfl, itr_enm ha.E⟩
  | zip2 a b ha hb => exact ⟨exp_none rfl, tst_none rfl, arg_none rfl, itr_zip2 ha.E hb.E⟩
  | anil => exact ⟨exp_none rfl, tst_none rfl, snd_anil, itr_none rfl⟩
  | acons e es he hs => exact ⟨exp_none rfl, tst_none rfl, snd_acons he.E hs.A, itr_none rfl⟩
end
end Ev
set_option Elab.async false
set_option linter.all false
set_option maxRecDepth 100000
set_option maxHeartbeats 4000000
/-! Ev7: statements, and a def's promise. -/
namespace Ev
open PySem PySem.Spec L2

/-! ### the tree and the text -/
def isStar : Expr → Bool
  | .Starred .. => true
  | _ => false
def swName (env : Env) (line : Nat) : Expr → Option Str
  | .Name id pos => if env.kindOf id == some .local && pos.line == line then some id else none
  | _ => none
theorem swapped_eq {ts vs : List Expr} {kk k2 : Nat} {tp tp2 : Pos} {env : Env} : swappedStores [.Tuple ts kk tp] (.Tuple vs k2 tp2) env = (
  if (!(ts.length == 2 || ts.length == 3) || vs.length != ts.length || env.blockKind != .function) = true then pure none else
  if (vs.any isStar) = true then pure none else
  if ((ts.filterMap (swName env ((ts.head?.map (·.pos.line)).getD 0))).length != ts.length || (ts.filterMap (swName env ((ts.head?.map (·.pos.line)).getD 0))).eraseDups.length != (ts.filterMap (swName env ((ts.head?.map (·.pos.line)).getD 0))).length) = true then pure none else
  if (vs.all (foldedForSure 8)) = true then pure none else
  if (vs.all (constantsAlone 8)) = true then (do let _ : PUnit ← unsupported "assign.tuple-of-constant-expressions:order-of-the-stores"; pure (some (ts.filterMap (swName env ((ts.head?.map (·.pos.line)).getD 0))))) else
  pure (some (ts.filterMap (swName env ((ts.head?.map (·.pos.line)).getD 0)))) : PySem.Sem (Option (List Str))) := by
  unfold swappedStores
  dsimp only
  split
  · rfl
  · split
    · rename_i h; rw [if_pos (show vs.any isStar = true from h)]
    · rename_i h; rw [if_neg (show ¬ vs.any isStar = true from h)]
      split
      · rename_i h; exact (if_pos h).symm
      · rename_i h
        refine Eq.trans ?_ (if_neg h).symm
        rfl
theorem swp2 {env : Env} {x y : Str} {p1 p2 tp tp2 : Pos} {kk k2 : Nat} {a b : Expr} (hk : env.blockKind = .function) (hx : env.kindOf x = some .local) (hy : env.kindOf y = some .local) (hl : p2.line = p1.line) (hxy : x ≠ y)
   (sa : isStar a = false) (sb : isStar b = false) (n4 : [a, b].all (foldedForSure 8) = false) (n5 : [a, b].all (constantsAlone 8) = false) :
   swappedStores [.Tuple [.Name x p1, .Name y p2] kk tp] (.Tuple [a, b] k2 tp2) env = pure (some [x, y]) := by
  have e : [Expr.Name x p1, .Name y p2].filterMap (swName env (([Expr.Name x p1, .Name y p2].head?.map (·.pos.line)).getD 0)) = [x, y] := by
    simp [swName, hx, hy, hl, Expr.pos]
  rw [swapped_eq, e]
  have yx : ¬ y = x := fun z => hxy z.symm
  have e2 : ([x, y] : List Str).eraseDups = [x, y] := by
    simp [List.eraseDups_cons, yx]
  rw [e2, n4, n5, hk]
  simp [sa, sb]
theorem swp3 {env : Env} {x y w : Str} {p1 p2 p3 tp tp2 : Pos} {kk k2 : Nat} {a b c : Expr} (hk : env.blockKind = .function) (hx : env.kindOf x = some .local) (hy : env.kindOf y = some .local) (hw : env.kindOf w = some .local) (hl : p2.line = p1.line) (hl3 : p3.line = p1.line) (hxy : x ≠ y) (hxw : x ≠ w) (hyw : y ≠ w)
   (sa : isStar a = false) (sb : isStar b = false) (sc : isStar c = false) (n4 : [a, b, c].all (foldedForSure 8) = false) (n5 : [a, b, c].all (constantsAlone 8) = false) :
   swappedStores [.Tuple [.Name x p1, .Name y p2, .Name w p3] kk tp] (.Tuple [a, b, c] k2 tp2) env = pure (some [x, y, w]) := by
  have e : [Expr.Name x p1, .Name y p2, .Name w p3].filterMap (swName env (([Expr.Name x p1, .Name y p2, .Name w p3].head?.map (·.pos.line)).getD 0)) = [x, y, w] := by
    simp [swName, hx, hy, hw, hl, hl3, Expr.pos]
  rw [swapped_eq, e]
  have e2 : ([x, y, w] : List Str).eraseDups = [x, y, w] := by
    simp [List.eraseDups_cons, Ne.symm hxy, Ne.symm hxw, Ne.symm hyw]
  rw [e2, n4, n5, hk]
  simp [sa, sb, sc]
def notComp (e : Expr) : Bool := match e with
  | .ListComp _ _ _ _ => false
  | .SetComp _ _ _ _ => false
  | .DictComp _ _ _ _ _ => false
  | _ => true
def notPair (e : Expr) : Bool := match e with
  | .Tuple _ _ _ => false
  | _ => true
/-- does a = value store without a swap? -/
def noSwap (v : Expr) (x : Str) (sc : Scope) : Bool := notComp v || (match sc.names.lookup x with
  | some .cell => true
  | _ => false)
/-- y = [..] right into y -/
def swOk (v : Expr) (y : Str) (py : Pos) (sc : Scope) : Bool := match v with
  | .ListComp _ _ scope pos => (match sc.kind with | .function => true | _ => false) && decide (sc.names.lookup y = some .local) && (py.line == pos.line) && !(scope.names.any fun (n, k) => n == y && (k == .local || k == .cell))
  | _ => false
def mtNs : List Nat → MC → List Expr → Bool
  | [], _, [] => true
  | i :: is, cx, .Name x _ :: r => decide (cx.N[i]? = some x) && locB cx.sc x && mtNs is cx r
  | _, _, _ => false
def nameS : Expr → Option (Str × Nat)
  | .Name x p => some (x, p.line)
  | _ => none
def parOk (cx : MC) (is : List Nat) (ts vs : List Expr) : Bool :=
  (match cx.sc.kind with | .function => true | _ => false) && mtNs is cx ts && (ts.all fun t => match t with
    | .Name x p => decide (cx.sc.names.lookup x = some .local) && (p.line == (ts.head?.map (·.pos.line)).getD 0)
    | _ => false) && decide ((ts.filterMap nameS).map (·.1)).Nodup && !(vs.all (foldedForSure 8)) && !(vs.all (constantsAlone 8))
def isBlk : MS → Bool
  | .nil => true
  | .seq _ _ => true
  | _ => false
def mtS : MS → MC → List Stmt → Bool
  | .nil, _, z => (match z with
    | [] => true
    | _ => false)
  | .seq a b, cx, z => (match z with
    | s :: r => !isBlk a && isBlk b && mtS a cx [s] && mtS b cx r
    | _ => false)
  | .pas, _, z => (match z with
    | [.Pass _] => true
    | _ => false)
  | .asg i e, cx, z => (match z with
    | [.Assign [.Name x _] v _] => decide (cx.N[i]? = some x) && locB cx.sc x && mt e cx [v] && noSwap v x cx.sc
    | _ => false)
  | .asgc i e, cx, z => (match z with
    | [.Assign [.Name x py] v _] => decide (cx.N[i]? = some x) && mt e cx [v] && swOk v x py cx.sc
    | _ => false)
  | .tas is e, cx, z => (match z with
    | [.Assign [.Tuple ts _ _] v _] => mtNs is cx ts && mt e cx [v] && notComp v && notPair v
    | _ => false)
  | .par2 i j a b, cx, z => (match z with
    | [.Assign [.Tuple [.Name x p1, .Name y p2] _ _] (.Tuple [a', b'] _ _) _] => parOk cx [i, j] [.Name x p1, .Name y p2] [a', b'] && mt a cx [a'] && mt b cx [b']
    | _ => false)
  | .par3 i j k a b c, cx, z => (match z with
    | [.Assign [.Tuple [.Name x p1, .Name y p2, .Name w p3] _ _] (.Tuple [a', b', c'] _ _) _] => parOk cx [i, j, k] [.Name x p1, .Name y p2, .Name w p3] [a', b', c'] && mt a cx [a'] && mt b cx [b'] && mt c cx [c']
    | _ => false)
  | .sub i k e, cx, z => (match z with
    | [.Assign [.Subscript (.Name x _) k' _] v _] => visB cx.sc x && decide (cx.N[i]? = some x) && okN x && mt k cx [k'] && notSlice k' && mt e cx [v] && notComp v
    | _ => false)
  | .fld i f e, cx, z => (match z with
    | [.Assign [.Attribute (.Name x _) y _] v _] => visB cx.sc x && decide (cx.N[i]? = some x) && okN x && decide (y = cx.nm f) && mt e cx [v] && notComp v
    | _ => false)
  | .ex e, cx, z => (match z with
    | [.Expr v _] => mt e cx [v] && notComp v
    | _ => false)
  | .ite c a b, cx, z => (match z with
    | [.If c' a' b' _] => mt c cx [c'] && isBlk a && isBlk b && mtS a cx a' && mtS b cx b'
    | _ => false)
  | .whl c a, cx, z => (match z with
    | [.While c' a' [] _] => mt c cx [c'] && isBlk a && mtS a cx a'
    | _ => false)
  | .forn i it b, cx, z => (match z with
    | [.For (.Name x _) iter body [] _] => decide (cx.N[i]? = some x) && locB cx.sc x && mt it cx [iter] && notSet iter && !isEnm it && isBlk b && mtS b cx body
    | _ => false)
  | .fort is it b, cx, z => (match z with
    | [.For (.Tuple ts _ _) iter body [] _] => mtNs is cx ts && mt it cx [iter] && notSet iter && isBlk b && mtS b cx body
    | _ => false)
  | .ret e, cx, z => (match z with
    | [.Return (some v) _] => mt e cx [v]
    | _ => false)
  | .retN, _, z => (match z with
    | [.Return none _] => true
    | _ => false)
  | .rai _ _, _, z => (match z with
    | [.Raise _ _ _] => true
    | _ => false)
  | .stk, _, _ => true

/-! ### promises of statements -/
def PSm (K : PySem.W.Frag) (nm : Nat → Str) (e : Ent) (W : WX) (S : AS) (H : Hp) (ms : List Addr) (x : Option Out) (D : Ends) : Prop := match x with
  | none => False
  | some (.nx st') => ∀ σ' S' H' ms', Ext S H ms S' H' ms' → SR K nm e S' H' ms' σ' st' → D.nx σ' H'
  | some (.rt own d st') => ∀ v σ' S' H' ms', Ext S H ms S' H' ms' → SR K nm e S' H' ms' σ' st' → RV K nm e S' H' ms' σ' st' (own, d) v → D.rt v H'
  | some (.exc c fs l st') => ∀ d σ' S' H' ms', Ext S H ms S' H' ms' → SR K nm e S' H' ms' σ' st' → XR K nm fs l d S' H' ms' → W (.ref (He.ga K (nm c))) d σ' H'
section
variable {K : PySem.W.Frag} {nm : Nat → Str} {e : Ent} {W : WX} {σ : L2.St} {S S' : AS} {H H' : Hp} {ms ms' : List Addr} {α : Type} {D : Ends}
theorem PSm.ext {x : Option Out} (h : PSm K nm e W S H ms x D) (y : Ext S H ms S' H' ms') : PSm K nm e W S' H' ms' x D := by
  match x, h with
  | some (.nx st'), h => exact fun σ' S2 H2 ms2 z => h σ' S2 H2 ms2 (y.trans z)
  | some (.rt own d st'), h => exact fun v σ' S2 H2 ms2 z => h v σ' S2 H2 ms2 (y.trans z)
  | some (.exc c fs l st'), h => exact fun d σ' S2 H2 ms2 z => h d σ' S2 H2 ms2 (y.trans z)
theorem PSm.obnd {x : Option (O α)} {f : α → Stt → Option Out} (h : PSm K nm e W S H ms (Ev.obnd x f) D) : Pst K nm e W σ S H ms x fun a st' S' H' ms' => PSm K nm e W S' H' ms' (f a st') D := by
  match x, h with
  | some (.exc c fs l st'), h => exact fun d S2 H2 ms2 z r q => h d σ S2 H2 ms2 z r q
  | some (.ok a st'), h => exact fun S2 H2 ms2 z _ => PSm.ext h z
/-- what is wanted of the first of two -/
def thenD (K : PySem.W.Frag) (nm : Nat → Str) (e : Ent) (W : WX) (S : AS) (H : Hp) (ms : List Addr) (x : Option Out) (f : Stt → Option Out) (D : Ends) (nx : L2.St → Hp → Prop) : Prop :=
  ∀ σ' S' H' ms' st', x = some (.nx st') → Ext S H ms S' H' ms' → SR K nm e S' H' ms' σ' st' → PSm K nm e W S' H' ms' (f st') D → nx σ' H'
theorem PSm.thenO {x : Option Out} {f : Stt → Option Out} {D' : Ends} (h : PSm K nm e W S H ms (Ev.thenO x f) D) (hr : D'.rt = D.rt) (hn : thenD K nm e W S H ms x f D D'.nx) : PSm K nm e W S H ms x D' := by
  match x, h with
  | some (.nx st'), h => exact fun σ' S2 H2 ms2 z r => hn σ' S2 H2 ms2 st' rfl z r (PSm.ext h z)
  | some (.rt own d st'), h =>
    intro v σ' S2 H2 ms2 z r q
    rw [hr]
    exact h v σ' S2 H2 ms2 z r q
  | some (.exc c fs l st'), h => exact h
theorem PSm.opt {β : Type} {o : Option β} {f : β → Option Out} (h : PSm K nm e W S H ms (o.bind f) D) : ∃ b, o = some b ∧ PSm K nm e W S H ms (f b) D := by
  cases o with
  | none => exact h.elim
  | some b => exact ⟨b, rfl, h⟩
theorem PSm.mapn {o : Option Stt} (h : PSm K nm e W S H ms (o.map .nx) D) : ∃ b, o = some b ∧ ∀ σ' S' H' ms', Ext S H ms S' H' ms' → SR K nm e S' H' ms' σ' b → D.nx σ' H' := by
  cases o with
  | none => exact h.elim
  | some b => exact ⟨b, rfl, h⟩
end
def WS (X : Cx) (s : Stmt) (D : Ends) (σ : L2.St) (H : Hp) : Prop := ∀ (pins : List (Addr × Obj)) (sh : Shared), Inv X pins σ H sh → wpAny (model X.prog X.w) X.A (exec s X.env) (SP X pins D) X.xe sh
def WSs (X : Cx) (s : List Stmt) (D : Ends) (σ : L2.St) (H : Hp) : Prop := ∀ (pins : List (Addr × Obj)) (sh : Shared), Inv X pins σ H sh → wpAny (model X.prog X.w) X.A (execs s X.env) (SP X pins D) X.xe sh
theorem psW {X : Cx} {s : Stmt} : PS X s (WS X s) := ⟨fun pins sh _ _ _ I h => h pins sh I⟩
theorem pssW {X : Cx} {s : List Stmt} : PSs X s (WSs X s) := ⟨fun pins sh _ _ _ I h => h pins sh I⟩
theorem ofPS {X : Cx} {s : Stmt} {t : TS} {D : Ends} {σ : L2.St} {H : Hp} (h : PS X s t) (q : t D σ H) : WS X s D σ H := fun pins sh I => h.run pins sh σ H D I q
theorem ofPSs {X : Cx} {s : List Stmt} {t : TS} {D : Ends} {σ : L2.St} {H : Hp} (h : PSs X s t) (q : t D σ H) : WSs X s D σ H := fun pins sh I => h.run pins sh σ H D I q
structure SOk (G : Tab) (k : Nat) (X : Cx) (cx : MC) (W : WX) : Prop where
  x : XOk G k X cx W
  po : PassesOwn (model X.prog X.w) X.A X.env X.xe
  kind : X.env.scope.kind = .function
  fn : ∀ y, X.fn y = true
  noex : ∀ c, G.exc c = none
def SndB (G : Tab) (m : MS) : Prop := ∀ {k : Nat} {X : Cx} {cx : MC} {W : WX}, SOk G k X cx W → ∀ {ss : List Stmt}, mtS m cx ss = true → ∀ {en : Ent} {S : AS} {H : Hp} {ms : List Addr} {σ : L2.St} {st : Stt} {D : Ends}, SR X.K G.nm en S H ms σ st →
  PSm X.K G.nm en W S H ms (evS G m st) D → WSs X ss D σ H
def Snd1 (G : Tab) (m : MS) : Prop := ∀ {k : Nat} {X : Cx} {cx : MC} {W : WX}, SOk G k X cx W → ∀ {s : Stmt}, mtS m cx [s] = true → ∀ {en : Ent} {S : AS} {H : Hp} {ms : List Addr} {σ : L2.St} {st : Stt} {D : Ends}, SR X.K G.nm en S H ms σ st →
  PSm X.K G.nm en W S H ms (evS G m st) D → WS X s D σ H
structure SndM (G : Tab) (m : MS) : Prop where
  blk : isBlk m = true → SndB G m
  one : isBlk m = false → Snd1 G m
section
variable {G : Tab} {k : Nat} {X : Cx} {cx : MC} {W : WX} {en : Ent} {S : AS} {H : Hp} {ms : List Addr} {σ : L2.St} {st : Stt}
theorem SOk.loc (ok : SOk G k X cx W) {x : Str} (h : locB cx.sc x = true) : Loc X.env.scope x := by
  rw [ok.x.sc]
  unfold locB at h
  split at h
  · rename_i e; exact .inl e
  · rename_i e; exact .inr e
  · cases h
/-- an expression, then the rest -/
theorem stE {a : ME} (ok : SOk G k X cx W) {a' : Expr} (ha : mt a cx [a'] = true) (R : SR X.K G.nm en S H ms σ st) {F : Bool × D → Stt → Option Out} {D : Ends} {T : VK} (h : PSm X.K G.nm en W S H ms (obnd ((ev G a).E st) F) D)
    (hT : ∀ r v st1 S1 H1 ms1, Ext S H ms S1 H1 ms1 → SR X.K G.nm en S1 H1 ms1 σ st1 → RV X.K G.nm en S1 H1 ms1 σ st1 r v → PSm X.K G.nm en W S1 H1 ms1 (F r st1) D → T v H1) : WE X a' σ H T :=
  (all_snd a).E ok.x ha R ((PSm.obnd h).imp fun r st1 S1 H1 ms1 _ x1 R1 h1 v hv => hT r v st1 S1 H1 ms1 x1 R1 hv h1)
theorem stSh {a : ME} (ok : SOk G k X cx W) {a' : Expr} (ha : mt a cx [a'] = true) (R : SR X.K G.nm en S H ms σ st) {F : Bool × D → Stt → Option Out} {D : Ends} {T : VK} (h : PSm X.K G.nm en W S H ms (obnd ((ev G a).E st) F) D)
    (hT : ∀ r v st1 S1 H1 ms1, Ext S H ms S1 H1 ms1 → SR X.K G.nm en S1 H1 ms1 σ st1 → Rep X.K G.nm S1 H1 ms1 r.2 v → PSm X.K G.nm en W S1 H1 ms1 (F r st1) D → T v H1) : WE X a' σ H T :=
  stE ok ha R h fun r v st1 S1 H1 ms1 x1 R1 hv h1 => by
    obtain ⟨S2, x2, R2, q⟩ := R1.shared hv
    exact hT r v st1 S2 H1 ms1 (x1.trans x2) R2 q (h1.ext x2)
theorem stT {a : ME} (ok : SOk G k X cx W) {a' : Expr} (ha : mt a cx [a'] = true) (R : SR X.K G.nm en S H ms σ st) {F : Bool → Stt → Option Out} {D : Ends} {T : Bool → Hp → Prop} (h : PSm X.K G.nm en W S H ms (obnd ((ev G a).T st) F) D)
    (hT : ∀ r st1 S1 H1 ms1, Ext S H ms S1 H1 ms1 → SR X.K G.nm en S1 H1 ms1 σ st1 → PSm X.K G.nm en W S1 H1 ms1 (F r st1) D → T r H1) : WT X a' σ H T :=
  (all_snd a).T ok.x ha R ((PSm.obnd h).imp fun r st1 S1 H1 ms1 _ x1 R1 h1 => hT r st1 S1 H1 ms1 x1 R1 h1)
theorem sndS_nil : SndB G .nil := by
  intro k X cx W ok ss hm en S H ms σ st D R h
  cases ss with
  | nil => exact ofPSs pss_nil (h σ S H ms .refl R)
  | cons s r => cases hm
theorem sndS_seq {a b : MS} (hA : SndM G a) (hB : SndM G b) : SndB G (.seq a b) := by
  intro k X cx W ok ss hm en S H ms σ st D R h
  cases ss with
  | nil => cases hm
  | cons s r =>
    obtain ⟨g0, g3, g4⟩ := and3 (show (!isBlk a && isBlk b && mtS a cx [s] && mtS b cx r) = true from hm)
    obtain ⟨g1, g2⟩ := and2 g0
    have h : PSm X.K G.nm en W S H ms (thenO (evS G a st) (evS G b)) D := h
    exact ofPSs (pss_cons psW pssW) (hA.one (by simpa using g1) ok g3 R (h.thenO rfl fun σ' S' H' ms' st' _ x' R' h' => hB.blk g2 ok g4 R' h'))
/-! ### plain stores -/
theorem noSwap_ok {v : Expr} {x : Str} {sc : Scope} (h : noSwap v x sc = true) {p : Pos} {l : Nat} {env : Env} (hs : env.scope = sc) : swapsWith v (some (.Name x p)) l env = pure false := by
  unfold noSwap at h
  rw [Bool.or_eq_true] at h
  rcases h with h | h
  · unfold swapsWith
    cases v <;> first | rfl | cases h
  · have hk : env.kindOf x = some .cell := by
      show env.scope.names.lookup x = some .cell
      rw [hs]
      split at h
      · assumption
      · cases h
    have e1 : (env.kindOf x == some NameKind.local) = false := by rw [hk]; rfl
    cases v <;> first
      | rfl
      | (show (pure (env.blockKind == .function && env.kindOf x == some .local && _ && _) : PySem.Sem Bool) = pure false
         rw [e1]
         simp)
theorem comp_sw {v : Expr} (h : notComp v = true) {t : Option Expr} {l : Nat} {env : Env} : swapsWith v t l env = pure false := by
  unfold swapsWith
  cases v <;> first | rfl | cases h
theorem snd1_asg {i : Nat} {e : ME} : Snd1 G (.asg i e) := by
  intro k X cx W ok s hm en S H ms σ st D R h
  have hm1 : (match [s] with
    | [.Assign [.Name x _] v _] => decide (cx.N[i]? = some x) && locB cx.sc x && mt e cx [v] && noSwap v x cx.sc
    | _ => false) = true := hm
  split at hm1
  · rename_i x p v pos e0
    cases e0
    obtain ⟨g0, g3, g4⟩ := and3 hm1
    obtain ⟨g1, g2⟩ := and2 g0
    refine ofPS (ps_set ok.x.nd (ok.x.slot g1) (ok.loc g2) peW (noSwap_ok g4 ok.x.sc) (.inl (ok.fn x))) (stE ok g3 R h fun r v st1 S1 H1 ms1 x1 R1 q1 h1 => ?_)
    obtain ⟨b, e1, h2⟩ := h1.mapn
    obtain ⟨_, e2⟩ := setD_of e1
    subst e2
    exact h2 _ S1 H1 ms1 .refl (R1.setAny q1)
  · cases hm1
theorem snd1_asgc {i : Nat} {e : ME} : Snd1 G (.asgc i e) := by
  intro k X cx W ok s hm en S H ms σ st D R h
  have hm1 : (match [s] with
    | [.Assign [.Name x py] v _] => decide (cx.N[i]? = some x) && mt e cx [v] && swOk v x py cx.sc
    | _ => false) = true := hm
  split at hm1
  · rename_i y py v spos e0
    cases e0
    obtain ⟨g1, g2, g3⟩ := and3 hm1
    cases e with
    | comp e i2 it c =>
      have hm2 : (match [v] with
        | [.ListComp elt [⟨.Name x _, iter, ifs, 0⟩] scope _] => decide (cx.N[i2]? = some x) && mt it cx [iter] && notSet iter && !isEnm it && blkC cx.N cx.sc scope [(x, i2)] && decide ((relS scope cx.sc).names.lookup x = some .local) &&
          mt e ⟨cx.N, relS scope cx.sc, cx.nm⟩ [elt] && (match ifs with
          | [] => isNil c
          | [c'] => !isNil c && mt c ⟨cx.N, relS scope cx.sc, cx.nm⟩ [c']
          | _ => false)
        | _ => false) = true := g2
      split at hm2
      · rename_i elt x xp iter ifs scope pos e0
        cases e0
        obtain ⟨f0, f6, f7⟩ := and3 hm2
        obtain ⟨f0, f4, f5⟩ := and3 f0
        obtain ⟨f0, f3, f8⟩ := and3 f0
        obtain ⟨f1, f2⟩ := and2 f0
        obtain ⟨s0, s3, s4⟩ := and3 (show ((match cx.sc.kind with | .function => true | _ => false) && decide (cx.sc.names.lookup y = some .local) && (py.line == pos.line) && !(scope.names.any fun (n, k) => n == y && (k == .local || k == .cell))) = true from g3)
        obtain ⟨s1, s2⟩ := and2 s0
        have hx : X.N[i2]? = some x := ok.x.slot f1
        have hyl : X.env.scope.names.lookup y = some .local := by rw [ok.x.sc]; exact of_decide_eq_true s2
        have hloc : ∀ (s : Shared) (H0 : Hp) (C : Addr) (cl : List (Str × Addr)) (fp : List Addr), (X.blk s H0 scope (compEnvC scope cl C X.env) fp).env.scope.names.lookup x = some .local := fun s H0 C cl fp => by
          show (relS scope X.env.scope).names.lookup x = _
          rw [ok.x.sc]
          exact of_decide_eq_true f5
        have hset : ∀ v, foldedSetIterable iter X.env v = pure v := fun v => by
          unfold foldedSetIterable
          split
          · cases f3
          · rfl
        have hblk : BlkOk X.N X.env.scope scope [(x, i2)] := blkOk_by (by rw [ok.x.hN, ok.x.sc]; exact f4)
        have htt : ∀ (s : Shared) (H : Hp) (C : Addr) (cl : List (Str × Addr)) (fp : List Addr), PTs (X.blk s H scope (compEnvC scope cl C X.env) fp) ifs (ttC X scope ifs) := fun s H0 C cl fp => by
          match ifs, f7 with
          | [], _ => exact pts_nil
          | [c'], _ => exact pts_one ⟨fun pins s' σ H Q I h => h s H0 C cl fp pins s' I⟩
        refine ofPS (ps_setLc ok.x.calm ok.x.nd (ok.x.slot g1) hyl (sw_true ok.kind hyl s3 (by simpa using s4)) (wi := WI X (.Name x xp) iter) (te := teC X scope elt) (tt := ttC X scope ifs) (g := gName i2) piW hblk
          (fun s H0 C cl fp => pg_name ok.x.nd hx (.inl (hloc s H0 C cl fp)) (.inr (hloc s H0 C cl fp)))
          htt (fun s H0 C cl fp => ⟨fun pins s' σ H Q I h => h s H0 C cl fp pins s' I⟩) hset) ?_
        refine comp_core (all_snd e).E (all_snd it).I (all_snd c).T ok.x f2 f8 f6 f7 R ((PSm.obnd h).imp fun r st1 S1 H1 ms1 _ x1 R1 h1 v hv => ?_)
        obtain ⟨b, e1, h2⟩ := h1.mapn
        obtain ⟨_, e2⟩ := setD_of e1
        subst e2
        exact h2 _ S1 H1 ms1 .refl (R1.setAny hv)
      · cases hm2
    | compt e is it c =>
      have hm2 : (match [v] with
        | [.ListComp elt [⟨.Tuple ts _ _, iter, ifs, 0⟩] scope _] => mt it cx [iter] && notSet iter && blkC cx.N cx.sc scope ((nsOf ts).zip is) && mtNsB is cx.N (relS scope cx.sc) ts &&
          mt e ⟨cx.N, relS scope cx.sc, cx.nm⟩ [elt] && (match ifs with
          | [] => isNil c
          | [c'] => !isNil c && mt c ⟨cx.N, relS scope cx.sc, cx.nm⟩ [c']
          | _ => false)
        | _ => false) = true := g2
      split at hm2
      · rename_i elt ts kk xp iter ifs scope pos e0
        cases e0
        obtain ⟨f0, f6, f7⟩ := and3 hm2
        obtain ⟨f0, f4, f5⟩ := and3 f0
        obtain ⟨f2, f3⟩ := and2 f0
        obtain ⟨s0, s3, s4⟩ := and3 (show ((match cx.sc.kind with | .function => true | _ => false) && decide (cx.sc.names.lookup y = some .local) && (py.line == pos.line) && !(scope.names.any fun (n, k) => n == y && (k == .local || k == .cell))) = true from g3)
        obtain ⟨s1, s2⟩ := and2 s0
        have hyl : X.env.scope.names.lookup y = some .local := by rw [ok.x.sc]; exact of_decide_eq_true s2
        have hns : ∀ (s : Shared) (H0 : Hp) (C : Addr) (cl : List (Str × Addr)) (fp : List Addr), mtNsB is (X.blk s H0 scope (compEnvC scope cl C X.env) fp).N (X.blk s H0 scope (compEnvC scope cl C X.env) fp).env.scope ts = true := fun s H0 C cl fp => by
          show mtNsB is X.N (relS scope X.env.scope) ts = true
          rw [ok.x.sc, ok.x.hN]
          exact f5
        have hset : ∀ v, foldedSetIterable iter X.env v = pure v := fun v => by
          unfold foldedSetIterable
          split
          · cases f3
          · rfl
        have hblk : BlkOk X.N X.env.scope scope ((nsOf ts).zip is) := blkOk_by (by rw [ok.x.hN, ok.x.sc]; exact f4)
        have htt : ∀ (s : Shared) (H : Hp) (C : Addr) (cl : List (Str × Addr)) (fp : List Addr), PTs (X.blk s H scope (compEnvC scope cl C X.env) fp) ifs (ttC X scope ifs) := fun s H0 C cl fp => by
          match ifs, f7 with
          | [], _ => exact pts_nil
          | [c'], _ => exact pts_one ⟨fun pins s' σ H Q I h => h s H0 C cl fp pins s' I⟩
        refine ofPS (ps_setLc ok.x.calm ok.x.nd (ok.x.slot g1) hyl (sw_true ok.kind hyl s3 (by simpa using s4)) (wi := WI X (.Tuple ts kk xp) iter) (te := teC X scope elt) (tt := ttC X scope ifs) (g := gTup X.K is.length (gAll is)) piW hblk
          (fun s H0 C cl fp => by
            obtain ⟨a, b, c, _⟩ := each_namesB (X.blk s H0 scope (compEnvC scope cl C X.env) fp).env (hns s H0 C cl fp)
            exact pg_tup ok.x.calm (pgs_namesB (Y := X.blk s H0 scope (compEnvC scope cl C X.env) fp) ok.x.nd (hns s H0 C cl fp)) (by rw [a, c]) b)
          htt (fun s H0 C cl fp => ⟨fun pins s' σ H Q I h => h s H0 C cl fp pins s' I⟩) hset) ?_
        refine comp_coreT (all_snd e).E (all_snd it).I (all_snd c).T ok.x (each_namesB X.env f5).2.2.2 f2 f6 f7 R ((PSm.obnd h).imp fun r st1 S1 H1 ms1 _ x1 R1 h1 v hv => ?_)
        obtain ⟨b, e1, h2⟩ := h1.mapn
        obtain ⟨_, e2⟩ := setD_of e1
        subst e2
        exact h2 _ S1 H1 ms1 .refl (R1.setAny hv)
      · cases hm2
    | _ =>
      cases v with
      | ListComp elt gs scope pos => first | cases g2 | exact h.elim
      | _ => cases g3
  · cases hm1
/-! ### several names -/
theorem each_names {is : List Nat} {ts : List Expr} : ∀ (_ : mtNs is cx ts = true), (assignEach ts X.env).length = ts.length ∧ (assignEach ts X.env).findIdx? (·.1) = none ∧ is.length = ts.length := by
  induction is generalizing ts with
  | nil =>
    intro h
    cases ts with
    | nil => exact ⟨rfl, rfl, rfl⟩
    | cons t r => cases t <;> cases h
  | cons i is ih =>
    intro h
    cases ts with
    | nil => cases h
    | cons t r =>
      cases t with
      | Name x p =>
        obtain ⟨_, _, h3⟩ := and3 (show (decide (cx.N[i]? = some x) && locB cx.sc x && mtNs is cx r) = true from h)
        obtain ⟨a, b, c⟩ := ih h3
        refine ⟨?_, ?_, ?_⟩
        · show (assignEach r X.env).length + 1 = _
          rw [a]
          rfl
        · show ((false, assign (.Name x p) X.env) :: assignEach r X.env).findIdx? (·.1) = none
          rw [List.findIdx?_cons]
          simp [b]
        · rw [List.length_cons, List.length_cons, c]
      | _ => cases h
theorem pgs_names (ok : SOk G k X cx W) : ∀ {is : List Nat} {ts : List Expr}, mtNs is cx ts = true → PGs X ts (gAll is)
  | [], ts, h => by
    cases ts with
    | nil => exact pgs_nil
    | cons t r => cases t <;> cases h
  | i :: is, ts, h => by
    cases ts with
    | nil => cases h
    | cons t r =>
      cases t with
      | Name x p =>
        obtain ⟨h1, h2, h3⟩ := and3 (show (decide (cx.N[i]? = some x) && locB cx.sc x && mtNs is cx r) = true from h)
        exact pgs_cons (pg_name ok.x.nd (ok.x.slot h1) (ok.loc h2) (.inl (ok.fn x))) (pgs_names ok h3) rfl
      | _ => cases h
theorem gAll_ok {K : PySem.W.Frag} {nm : Nat → Str} : ∀ {is : List Nat} {l : List D} {vs : List V} {st st' : Stt} {σ : L2.St} {Q : L2.St → Hp → Prop}, SR K nm en S H ms σ st → RepL K nm S H ms l vs → setAll is l st = some st' → (∀ σ', SR K nm en S H ms σ' st' → Q σ' H) → gAll is vs σ H Q
  | [], [], [], st, st', σ, Q, R, _, h, q => by
    cases h
    exact ⟨rfl, q σ R⟩
  | [], [], _ :: _, _, _, _, _, _, r, _, _ => r.elim
  | [], _ :: _, _, _, _, _, _, _, _, h, _ => nomatch h
  | _ :: _, [], _, _, _, _, _, _, _, h, _ => nomatch h
  | _ :: _, _ :: _, [], _, _, _, _, _, r, _, _ => r.elim
  | i :: is, d :: l, v :: vs, st, st', σ, Q, R, r, h, q => by
    have h : (setD i (false, d) st).bind (setAll is l) = some st' := h
    cases e : setD i (false, d) st with
    | none =>
      rw [e] at h
      cases h
    | some s1 =>
      rw [e] at h
      obtain ⟨_, e2⟩ := setD_of e
      subst e2
      exact ⟨v, vs, rfl, gAll_ok (R.setSh r.1) r.2 h q⟩
theorem pg_names (ok : SOk G k X cx W) {is : List Nat} {ts : List Expr} {kk : Nat} {p : Pos} (h : mtNs is cx ts = true) : PG X (.Tuple ts kk p) (gTup X.K is.length (gAll is)) := by
  obtain ⟨a, b, c⟩ := each_names (X := X) h
  exact pg_tup ok.x.calm (pgs_names ok h) (by rw [a, c]) b
theorem pg_or {Y : Cx} {tg : Expr} {a b : TG} (h1 : PG Y tg a) (h2 : PG Y tg b) : PG Y tg (fun v σ H Q => a v σ H Q ∨ b v σ H Q) :=
  ⟨fun pins s σ H v u Q I r h => h.elim (h1.run pins s σ H v u Q I r) (h2.run pins s σ H v u Q I r)⟩
theorem pg_namesL (ok : SOk G k X cx W) {is : List Nat} {ts : List Expr} {kk : Nat} {p : Pos} (h : mtNs is cx ts = true) : PG X (.Tuple ts kk p) (gLst X.K is.length (gAll is)) := by
  obtain ⟨a, b, c⟩ := each_names (X := X) h
  exact pg_lst ok.x.calm (pgs_names ok h) (by rw [a, c]) b
theorem snd1_tas {is : List Nat} {e : ME} : Snd1 G (.tas is e) := by
  intro k X cx W ok s hm en S H ms σ st D R h
  have hm1 : (match [s] with
    | [.Assign [.Tuple ts _ _] v _] => mtNs is cx ts && mt e cx [v] && notComp v && notPair v
    | _ => false) = true := hm
  split at hm1
  · rename_i ts kk tp v pos e0
    cases e0
    obtain ⟨g0, g3, g4⟩ := and3 hm1
    obtain ⟨g1, g2⟩ := and2 g0
    have hw : swappedStores [.Tuple ts kk tp] v X.env = pure none := by
      unfold swappedStores
      cases v <;> first | rfl | cases g4
    refine ofPS (ps_asg peW (pg_or (pg_names ok g1) (pg_namesL ok g1)) (comp_sw (t := some (.Tuple ts kk tp)) (l := pos.line) (env := X.env) g3) hw rfl) (stSh ok g2 R h fun r v st1 S1 H1 ms1 x1 R1 q1 h1 => ?_)
    obtain ⟨own, d⟩ := r
    cases d with
    | tup l =>
      obtain ⟨b, e1, h2⟩ := PSm.mapn h1
      obtain ⟨a, xs, e2, f, rl⟩ := q1
      exact .inl ⟨a, xs, e2, f.sq, by rw [← rl.len, setAll_len e1], gAll_ok R1 rl e1 fun σ' R' => h2 σ' S1 H1 ms1 .refl R'⟩
    | lst l =>
      obtain ⟨b, e1, h2⟩ := PSm.mapn h1
      obtain ⟨a, xs, e2, f, hH, rl⟩ := q1
      exact .inr ⟨a, xs, e2, SqL.of hH, by rw [← rl.len, setAll_len e1], gAll_ok R1 rl e1 fun σ' R' => h2 σ' S1 H1 ms1 .refl R'⟩
    | _ => exact h1.elim
  · cases hm1
theorem par_names {is : List Nat} {ts vs : List Expr} (h : parOk cx is ts vs = true) : (match cx.sc.kind with | .function => true | _ => false) = true ∧ mtNs is cx ts = true ∧ (ts.all fun t => match t with
    | .Name x p => decide (cx.sc.names.lookup x = some .local) && (p.line == (ts.head?.map (·.pos.line)).getD 0)
    | _ => false) = true ∧ ((ts.filterMap nameS).map (·.1)).Nodup ∧ vs.all (foldedForSure 8) = false ∧ vs.all (constantsAlone 8) = false := by
  unfold parOk at h
  obtain ⟨h0, h5, h6⟩ := and3 h
  obtain ⟨h0, h3, h4⟩ := and3 h0
  obtain ⟨h1, h2⟩ := and2 h0
  exact ⟨h1, h2, h3, of_decide_eq_true h4, by simpa using h5, by simpa using h6⟩
theorem bk_of (ok : SOk G k X cx W) : X.env.blockKind = .function := by
  unfold Env.blockKind
  rw [ok.kind]
  rfl
theorem nstar {m : ME} {a : Expr} (h : mt m cx [a] = true) : isStar a = false := by
  cases a with
  | Starred b p =>
    rw [mt_star] at h
    cases h
  | _ => rfl
theorem snd1_par2 {i j : Nat} {a b : ME} : Snd1 G (.par2 i j a b) := by
  intro k X cx W ok s hm en S H ms σ st D R h
  have hm1 : (match [s] with
    | [.Assign [.Tuple [.Name x p1, .Name y p2] _ _] (.Tuple [a', b'] _ _) _] => parOk cx [i, j] [.Name x p1, .Name y p2] [a', b'] && mt a cx [a'] && mt b cx [b']
    | _ => false) = true := hm
  split at hm1
  · rename_i x p1 y p2 kk tp a' b' k2 tp2 pos e0
    cases e0
    obtain ⟨g1, g2, g3⟩ := and3 hm1
    obtain ⟨n0, n1, n2, n3, n4, n5⟩ := par_names g1
    obtain ⟨m1, _, m2⟩ := and3 (show (decide (cx.N[i]? = some x) && locB cx.sc x && mtNs [j] cx [.Name y p2]) = true from n1)
    obtain ⟨m3, _, _⟩ := and3 (show (decide (cx.N[j]? = some y) && locB cx.sc y && mtNs [] cx []) = true from m2)
    have n2 : (decide (cx.sc.names.lookup x = some .local) && (p1.line == p1.line) && (decide (cx.sc.names.lookup y = some .local) && (p2.line == p1.line) && true)) = true := n2
    obtain ⟨l1, l2⟩ := and2 n2
    obtain ⟨l1, _⟩ := and2 l1
    obtain ⟨l2, _⟩ := and2 l2
    obtain ⟨l2, l3⟩ := and2 l2
    have hx : X.env.scope.names.lookup x = some .local := by rw [ok.x.sc]; exact of_decide_eq_true l1
    have hy : X.env.scope.names.lookup y = some .local := by rw [ok.x.sc]; exact of_decide_eq_true l2
    have hxy : x ≠ y := by
      have : ([x, y] : List Str).Nodup := n3
      simpa using this
    have hij : i ≠ j := fun z => by
      subst z
      have h1 := ok.x.slot m1
      rw [ok.x.slot m3] at h1
      cases h1
      exact hxy rfl
    have hw := swp2 (env := X.env) (tp := tp) (tp2 := tp2) (kk := kk) (k2 := k2) (bk_of ok) hx hy (by simpa using l3) hxy (nstar g2) (nstar g3) n4 n5
    refine ofPS (ps_par ok.x.calm ok.x.nd (ok.x.slot m1) (ok.x.slot m3) hij hx hy (pa_cons peW (pa_cons peW pa_nil (mt_nostar g3 _ _)) (mt_nostar g2 _ _)) hw) ?_
    refine stSh ok g2 R h fun r1 v1 st1 S1 H1 ms1 x1 R1 q1 h1 => ?_
    refine stSh ok g3 R1 h1 fun r2 v2 st2 S2 H2 ms2 x2 R2 q2 h2 => ?_
    obtain ⟨stF, eF, hF⟩ := PSm.mapn h2
    have eF : (setD i (false, r1.2) st2).bind (setD j (false, r2.2)) = some stF := eF
    cases e1 : setD i (false, r1.2) st2 with
    | none =>
      rw [e1] at eF
      cases eF
    | some s3 =>
      rw [e1] at eF
      obtain ⟨_, e2⟩ := setD_of e1
      obtain ⟨_, e3⟩ := setD_of eF
      subst e2
      subst e3
      exact ⟨v1, v2, rfl, hF _ S2 H2 ms2 .refl ((R2.setSh (q1.ext x2)).setSh q2)⟩
  · cases hm1
theorem snd1_par3 {i j l : Nat} {a b c : ME} : Snd1 G (.par3 i j l a b c) := by
  intro k X cx W ok s hm en S H ms σ st D R h
  have hm1 : (match [s] with
    | [.Assign [.Tuple [.Name x p1, .Name y p2, .Name w p3] _ _] (.Tuple [a', b', c'] _ _) _] => parOk cx [i, j, l] [.Name x p1, .Name y p2, .Name w p3] [a', b', c'] && mt a cx [a'] && mt b cx [b'] && mt c cx [c']
    | _ => false) = true := hm
  split at hm1
  · rename_i x p1 y p2 w p3 kk tp a' b' c' k2 tp2 pos e0
    cases e0
    obtain ⟨g0, g3, g4⟩ := and3 hm1
    obtain ⟨g1, g2⟩ := and2 g0
    obtain ⟨n0, n1, n2, n3, n4, n5⟩ := par_names g1
    obtain ⟨m1, _, m2⟩ := and3 (show (decide (cx.N[i]? = some x) && locB cx.sc x && mtNs [j, l] cx [.Name y p2, .Name w p3]) = true from n1)
    obtain ⟨m3, _, m4⟩ := and3 (show (decide (cx.N[j]? = some y) && locB cx.sc y && mtNs [l] cx [.Name w p3]) = true from m2)
    obtain ⟨m5, _, _⟩ := and3 (show (decide (cx.N[l]? = some w) && locB cx.sc w && mtNs [] cx []) = true from m4)
    have n2 : (decide (cx.sc.names.lookup x = some .local) && (p1.line == p1.line) && (decide (cx.sc.names.lookup y = some .local) && (p2.line == p1.line) && (decide (cx.sc.names.lookup w = some .local) && (p3.line == p1.line) && true))) = true := n2
    obtain ⟨l1, l2⟩ := and2 n2
    obtain ⟨l1, _⟩ := and2 l1
    obtain ⟨l2, l4⟩ := and2 l2
    obtain ⟨l2, l3⟩ := and2 l2
    obtain ⟨l4, _⟩ := and2 l4
    obtain ⟨l4, l5⟩ := and2 l4
    have hx : X.env.scope.names.lookup x = some .local := by rw [ok.x.sc]; exact of_decide_eq_true l1
    have hy : X.env.scope.names.lookup y = some .local := by rw [ok.x.sc]; exact of_decide_eq_true l2
    have hw' : X.env.scope.names.lookup w = some .local := by rw [ok.x.sc]; exact of_decide_eq_true l4
    have hnd : ([x, y, w] : List Str).Nodup := n3
    have hxy : x ≠ y := fun z => by subst z; simp at hnd
    have hxw : x ≠ w := fun z => by subst z; simp at hnd
    have hyw : y ≠ w := fun z => by subst z; simp at hnd
    have hij : i ≠ j := fun z => by
      subst z
      have h1 := ok.x.slot m1
      rw [ok.x.slot m3] at h1
      cases h1
      exact hxy rfl
    have hil : i ≠ l := fun z => by
      subst z
      have h1 := ok.x.slot m1
      rw [ok.x.slot m5] at h1
      cases h1
      exact hxw rfl
    have hjl : j ≠ l := fun z => by
      subst z
      have h1 := ok.x.slot m3
      rw [ok.x.slot m5] at h1
      cases h1
      exact hyw rfl
    have hw := swp3 (env := X.env) (tp := tp) (tp2 := tp2) (kk := kk) (k2 := k2) (bk_of ok) hx hy hw' (by simpa using l3) (by simpa using l5) hxy hxw hyw (nstar g2) (nstar g3) (nstar g4) n4 n5
    refine ofPS (ps_par3 ok.x.calm ok.x.nd (ok.x.slot m1) (ok.x.slot m3) (ok.x.slot m5) hij hil hjl hx hy hw' (pa_cons peW (pa_cons peW (pa_cons peW pa_nil (mt_nostar g4 _ _)) (mt_nostar g3 _ _)) (mt_nostar g2 _ _)) hw) ?_
    refine stSh ok g2 R h fun r1 v1 st1 S1 H1 ms1 x1 R1 q1 h1 => ?_
    refine stSh ok g3 R1 h1 fun r2 v2 st2 S2 H2 ms2 x2 R2 q2 h2 => ?_
    refine stSh ok g4 R2 h2 fun r3 v3 st3 S3 H3 ms3 x3 R3 q3 h3 => ?_
    obtain ⟨stF, eF, hF⟩ := PSm.mapn h3
    have eF : ((setD i (false, r1.2) st3).bind (setD j (false, r2.2))).bind (setD l (false, r3.2)) = some stF := eF
    cases e1 : setD i (false, r1.2) st3 with
    | none =>
      rw [e1] at eF
      cases eF
    | some s3 =>
      rw [e1] at eF
      obtain ⟨_, e2⟩ := setD_of e1
      subst e2
      have eF : (setD j (false, r2.2) { st3 with sl := st3.sl.set i (some (false, r1.2)) }).bind (setD l (false, r3.2)) = some stF := eF
      cases e3 : setD j (false, r2.2) { st3 with sl := st3.sl.set i (some (false, r1.2)) } with
      | none =>
        rw [e3] at eF
        cases eF
      | some s4 =>
        rw [e3] at eF
        obtain ⟨_, e4⟩ := setD_of e3
        subst e4
        obtain ⟨_, e5⟩ := setD_of eF
        subst e5
        exact ⟨v1, v2, v3, rfl, hF _ S3 H3 ms3 .refl (((R3.setSh (q1.ext (x2.trans x3))).setSh (q2.ext x3)).setSh q3)⟩
  · cases hm1
/-! ### an item, a field, a value alone -/
theorem snd1_sub {i : Nat} {kx e : ME} : Snd1 G (.sub i kx e) := by
  intro k X cx W ok s hm en S H ms σ st D R h
  have hm1 : (match [s] with
    | [.Assign [.Subscript (.Name x _) k' _] v _] => visB cx.sc x && decide (cx.N[i]? = some x) && okN x && mt kx cx [k'] && notSlice k' && mt e cx [v] && notComp v
    | _ => false) = true := hm
  split at hm1
  · rename_i x xp k' sp v pos e0
    cases e0
    obtain ⟨g0, g6, g7⟩ := and3 hm1
    obtain ⟨g0, g4, g5⟩ := and3 g0
    obtain ⟨g1, g2, g3⟩ := and3 g0
    have ha : ∀ v, assign (.Subscript (.Name x xp) k' sp) X.env v = (do
      let ov ← holding [v] (eval (.Name x xp) X.env)
      let iv ← holding [v, ov] (eval k' X.env)
      standAt sp
      holding [v, ov, iv] (setItem ov iv v)
      release [v, ov, iv] []) := fun v => by
      cases k' with
      | Slice a b c d => cases g5
      | _ => rfl
    refine ofPS (ps_asg peW (pg_sub (pe_var (ok.x.slot g2) (ok.x.vis g1) (okN_1 g3).1 (okN_1 g3).2) peW set_list ha) (comp_sw (t := some (.Subscript (.Name x xp) k' sp)) (l := pos.line) (env := X.env) g7) (by unfold swappedStores; cases v <;> rfl) rfl) ?_
    refine stSh ok g6 R h fun r1 v1 st1 S1 H1 ms1 x1 R1 q1 h1 => ?_
    have key : ∀ r2 st2 S2 H2 ms2 v2, Ext S1 H1 ms1 S2 H2 ms2 → SR X.K G.nm en S2 H2 ms2 σ st2 → RV X.K G.nm en S2 H2 ms2 σ st2 r2 v2 → PSm X.K G.nm en W S2 H2 ms2 (match r2.2, st2.sl[i]? with
      | .int n, some (some (true, .lst l)) => (ixN l.length n).bind fun j => some (.nx { st2 with sl := st2.sl.set i (some (true, .lst (l.set j r1.2))) })
      | _, _ => none) D → ∃ n l p xs j, r2.2 = .int n ∧ st2.sl[i]? = some (some (true, .lst l)) ∧ σ[i]? = some (some (V.ref p)) ∧ H2 p = some (.lst xs) ∧ ixN xs.length n = some j ∧ D.nx σ (upd H2 p (.lst (xs.set j v1))) := by
      intro r2 st2 S2 H2 ms2 v2 x2 R2 q2 h2
      split at h2
      · rename_i n l e1 e2
        obtain ⟨j, ej, h3⟩ := PSm.opt h2
        obtain ⟨p, xs, l', e3, hp, f1, f2, f3, f4, f5⟩ := R2.ownAt e2
        cases e3
        obtain ⟨x3, R3⟩ := R2.ownSet e2 hp (f3.set (j := j) (q1.ext x2))
        exact ⟨n, l, p, xs, j, e1, e2, hp, f2, by rw [← f3.len]; exact ej, h3 σ S2 _ ms2 x3 R3⟩
      · exact h2.elim
    obtain ⟨d0, e0, h1⟩ := PSm.opt h1
    obtain ⟨w, ew, _⟩ := R1.peekW e0
    refine ⟨w, ew, stE ok g4 R1 h1 fun r2 v2 st2 S2 H2 ms2 x2 R2 q2 h2 => ?_⟩
    obtain ⟨n, l, p, xs, j, f1, f2, f3, f4, f5, f6⟩ := key r2 st2 S2 H2 ms2 v2 x2 R2 q2 h2
    rw [ew] at f3
    cases f3
    obtain ⟨ow, dd⟩ := r2
    cases (show dd = .int n from f1)
    cases ow with
    | false =>
      cases (show v2 = .int n from q2)
      exact ⟨p, xs, n, j, rfl, rfl, f4, f5, f6⟩
    | true =>
      obtain ⟨_, _, z, _⟩ := q2
      cases z
  · cases hm1
theorem snd1_ex {e : ME} : Snd1 G (.ex e) := by
  intro k X cx W ok s hm en S H ms σ st D R h
  have hm1 : (match [s] with
    | [.Expr v _] => mt e cx [v] && notComp v
    | _ => false) = true := hm
  split at hm1
  · rename_i v pos e0
    cases e0
    obtain ⟨g1, g2⟩ := and2 hm1
    refine ofPS (ps_expr peW (comp_sw g2)) (stE ok g1 R h fun r v st1 S1 H1 ms1 x1 R1 q1 h1 => h1 _ S1 H1 ms1 .refl R1)
  · cases hm1
theorem snd1_pas : Snd1 G .pas := by
  intro k X cx W ok s hm en S H ms σ st D R h
  have hm1 : (match [s] with
    | [.Pass _] => true
    | _ => false) = true := hm
  split at hm1
  · rename_i pos e0
    cases e0
    exact ofPS ps_pass (h σ S H ms .refl R)
  · cases hm1
theorem snd1_retN : Snd1 G .retN := by
  intro k X cx W ok s hm en S H ms σ st D R h
  have hm1 : (match [s] with
    | [.Return none _] => true
    | _ => false) = true := hm
  split at hm1
  · rename_i pos e0
    cases e0
    exact ofPS ps_retN (h .non σ S H ms .refl R rfl)
  · cases hm1
theorem snd1_rai {c : Nat} {es : ME} : Snd1 G (.rai c es) := by
  intro k X cx W ok s hm en S H ms σ st D R h
  have h : PSm X.K G.nm en W S H ms ((G.exc c).bind fun x => obnd ((ev G es).A st) fun ds s1 => (match x, ds with
    | none, [] => some (.exc c [] [] s1)
    | some f, [d] => some (.exc c [f] [d] s1)
    | _, _ => none)) D := h
  rw [ok.noex] at h
  exact h.elim
theorem snd1_ite {c : ME} {a b : MS} (hA : SndM G a) (hB : SndM G b) : Snd1 G (.ite c a b) := by
  intro k X cx W ok s hm en S H ms σ st D R h
  have hm1 : (match [s] with
    | [.If c' a' b' _] => mt c cx [c'] && isBlk a && isBlk b && mtS a cx a' && mtS b cx b'
    | _ => false) = true := hm
  split at hm1
  · rename_i c' a' b' pos e0
    cases e0
    obtain ⟨g0, g4, g5⟩ := and3 hm1
    obtain ⟨g1, g2, g3⟩ := and3 g0
    refine ofPS (ps_if ptW pssW pssW) (stT ok g1 R h fun r st1 S1 H1 ms1 x1 R1 h1 => ?_)
    cases r with
    | true => exact hA.blk g2 ok g4 R1 h1
    | false => exact hB.blk g3 ok g5 R1 h1
  · cases hm1
theorem whl_n {c : Stt → Option (O Bool)} {b : Stt → Option Out} {s : Stt} {o : Out} (h : whl c b s = some o) : ∃ n, whlN c b n s = some o := by
  unfold whl at h
  split at h
  · exact ⟨_, h⟩
  · cases h
theorem snd1_whl {c : ME} {a : MS} (hA : SndM G a) : Snd1 G (.whl c a) := by
  intro k X cx W ok s hm en S H ms σ st D R h
  have hm1 : (match [s] with
    | [.While c' a' [] _] => mt c cx [c'] && isBlk a && mtS a cx a'
    | _ => false) = true := hm
  split at hm1
  · rename_i c' a' pos e0
    cases e0
    obtain ⟨g1, g2, g3⟩ := and3 hm1
    obtain ⟨n, hn⟩ : ∃ n, PSm X.K G.nm en W S H ms (whlN ((ev G c).T) (evS G a) n st) D := by
      have h : PSm X.K G.nm en W S H ms (whl ((ev G c).T) (evS G a) st) D := h
      cases q : whl ((ev G c).T) (evS G a) st with
      | none =>
        rw [q] at h
        exact h.elim
      | some o =>
        obtain ⟨n, hn⟩ := whl_n q
        rw [q] at h
        exact ⟨n, by rw [hn]; exact h⟩
    refine ofPS (ps_while ok.po ptW pssW) ⟨fun m σ' H' => ∃ S2 ms2 st2, SR X.K G.nm en S2 H' ms2 σ' st2 ∧ PSm X.K G.nm en W S2 H' ms2 (whlN ((ev G c).T) (evS G a) m st2) D, ⟨n, S, ms, st, R, hn⟩, ?_⟩
    rintro m σ1 H1 ⟨S1, ms1, st1, R1, h1⟩
    cases m with
    | zero => exact h1.elim
    | succ m =>
      refine stT ok g1 R1 h1 fun r st2 S2 H2 ms2 x2 R2 h2 => ?_
      cases r with
      | false => exact h2 _ S2 H2 ms2 .refl R2
      | true =>
        have h2 : PSm X.K G.nm en W S2 H2 ms2 (thenO (evS G a st2) (whlN ((ev G c).T) (evS G a) m)) D := h2
        exact ⟨fun σ' H' => ∃ S2 ms2 st2, SR X.K G.nm en S2 H' ms2 σ' st2 ∧ PSm X.K G.nm en W S2 H' ms2 (whlN ((ev G c).T) (evS G a) m st2) D, fun σ' H' z => ⟨m, Nat.lt_succ_self m, z⟩,
          hA.blk g2 ok g3 R2 (h2.thenO rfl fun σ' S' H' ms' st' _ x' R' h' => ⟨S', ms', st', R', h'⟩)⟩
  · cases hm1
theorem for_core {it : ME} (ok : SOk G k X cx W) {tg iter : Expr} {body : List Stmt} {g : TG} {F : D → Stt → Option Out} {D' : Ends} (hi : mt it cx [iter] = true) (ht : isEnm it = true → isTup tg) (R : SR X.K G.nm en S H ms σ st)
    (hg : ∀ d v S1 H1 ms1 σ1 st1 (E : Ends), SR X.K G.nm en S1 H1 ms1 σ1 st1 → Rep X.K G.nm S1 H1 ms1 d v → PSm X.K G.nm en W S1 H1 ms1 (F d st1) E → g v σ1 H1 fun σ2 H2 => WSs X body E σ2 H2)
    (h : PSm X.K G.nm en W S H ms (obnd ((ev G it).I st) fun ds s1 => forR F ds s1) D') : tFor (WI X tg iter) g (WSs X body) D' σ H := by
  refine (all_snd it).I ok.x hi ht R ((PSm.obnd h).imp fun ds st1 S1 H1 ms1 _ x1 R1 h1 J hJ => ?_)
  refine ⟨fun n m σc Hc => n ≤ ds.length ∧ m = ds.length - n ∧ ∃ S2 ms2 st2, Ext S1 H1 ms1 S2 Hc ms2 ∧ SR X.K G.nm en S2 Hc ms2 σc st2 ∧ PSm X.K G.nm en W S2 Hc ms2 (forR F (ds.drop n) st2) D', ⟨ds.length, Nat.zero_le _, rfl, S1, ms1, st1, .refl, R1, h1⟩, ?_⟩
  rintro n m σ2 H2 ⟨hn, hm, S2, ms2, st2, x2, R2, h2⟩
  obtain ⟨hgo, hstop⟩ := hJ S2 H2 ms2 x2
  by_cases hlt : n < ds.length
  · have hd : ds[n]? = some ds[n] := List.getElem?_eq_getElem hlt
    have hdrop : ds.drop n = ds[n] :: ds.drop (n + 1) := List.drop_eq_getElem_cons hlt
    rw [hdrop] at h2
    have h2 : PSm X.K G.nm en W S2 H2 ms2 (thenO (F ds[n] st2) (forR F (ds.drop (n + 1)))) D' := h2
    obtain ⟨go, yl⟩ := hgo n _ hd
    refine .inr ⟨go, fun σ' H' => ∃ m', m' < m ∧ (n + 1 ≤ ds.length ∧ m' = ds.length - (n + 1) ∧ ∃ S2 ms2 st2, Ext S1 H1 ms1 S2 H' ms2 ∧ SR X.K G.nm en S2 H' ms2 σ' st2 ∧ PSm X.K G.nm en W S2 H' ms2 (forR F (ds.drop (n + 1)) st2) D'), fun σ' H' z => z, fun v H3 hy => ?_⟩
    obtain ⟨S3, x3, R3, rv⟩ := yl v H3 hy _ _ _ R2
    refine hg ds[n] v S3 H3 ms2 σ2 st2 _ R3 rv ((h2.ext x3).thenO rfl fun σ' S' H' ms' st' _ x' R' h' => ?_)
    exact ⟨ds.length - (n + 1), by omega, hlt, rfl, S', ms', st', (x2.trans x3).trans x', R', h'⟩
  · have hn : n = ds.length := by omega
    subst hn
    rw [List.drop_length] at h2
    exact .inl ⟨hstop, h2 _ S2 H2 ms2 .refl R2⟩
theorem fold_set {iter : Expr} (h : notSet iter = true) (v : Value) : foldedSetIterable iter X.env v = pure v := by
  unfold foldedSetIterable
  split
  · cases h
  · rfl
theorem snd1_forn {i : Nat} {it : ME} {b : MS} (hB : SndM G b) : Snd1 G (.forn i it b) := by
  intro k X cx W ok s hm en S H ms σ st D R h
  have hm1 : (match [s] with
    | [.For (.Name x _) iter body [] _] => decide (cx.N[i]? = some x) && locB cx.sc x && mt it cx [iter] && notSet iter && !isEnm it && isBlk b && mtS b cx body
    | _ => false) = true := hm
  split at hm1
  · rename_i x xp iter body pos e0
    cases e0
    obtain ⟨g0, g6, g7⟩ := and3 hm1
    obtain ⟨g0, g4, g5⟩ := and3 g0
    obtain ⟨g1, g2, g3⟩ := and3 g0
    refine ofPS (ps_for ok.po ok.x.calm piW (pg_name ok.x.nd (ok.x.slot g1) (ok.loc g2) (.inl (ok.fn x))) pssW (fold_set g4)) (for_core ok g3 (fun he => by rw [he] at g5; cases g5) R ?_ h)
    intro d v S1 H1 ms1 σ1 st1 E R1 rv h1
    have h1 : PSm X.K G.nm en W S1 H1 ms1 ((setD i (false, d) st1).bind (evS G b)) E := h1
    obtain ⟨s2, e1, h2⟩ := h1.opt
    obtain ⟨_, e2⟩ := setD_of e1
    subst e2
    exact hB.blk g6 ok g7 (R1.setSh rv) h2
  · cases hm1
theorem snd1_fort {is : List Nat} {it : ME} {b : MS} (hB : SndM G b) : Snd1 G (.fort is it b) := by
  intro k X cx W ok s hm en S H ms σ st D R h
  have hm1 : (match [s] with
    | [.For (.Tuple ts _ _) iter body [] _] => mtNs is cx ts && mt it cx [iter] && notSet iter && isBlk b && mtS b cx body
    | _ => false) = true := hm
  split at hm1
  · rename_i ts kk tp iter body pos e0
    cases e0
    obtain ⟨g0, g6, g7⟩ := and3 hm1
    obtain ⟨g1, g2, g3⟩ := and3 g0
    refine ofPS (ps_for ok.po ok.x.calm piW (pg_names ok g1) pssW (fold_set g3)) (for_core ok g2 (fun _ => ⟨_, _, _, rfl⟩) R ?_ h)
    intro d v S1 H1 ms1 σ1 st1 E R1 rv h1
    cases d with
    | tup l =>
      have h1 : PSm X.K G.nm en W S1 H1 ms1 ((setAll is l st1).bind (evS G b)) E := h1
      obtain ⟨s2, e1, h2⟩ := h1.opt
      obtain ⟨a, xs, e2, f, rl⟩ := rv
      exact ⟨a, xs, e2, f.sq, by rw [← rl.len, setAll_len e1], gAll_ok R1 rl e1 fun σ' R' => hB.blk g6 ok g7 R' h2⟩
    | _ => exact h1.elim
  · cases hm1
theorem snd1_ret {e : ME} : Snd1 G (.ret e) := by
  intro k X cx W ok s hm en S H ms σ st D R h
  have hm1 : (match [s] with
    | [.Return (some v) _] => mt e cx [v]
    | _ => false) = true := hm
  split at hm1
  · rename_i v pos e0
    cases e0
    have gen : PSm X.K G.nm en W S H ms (obnd ((ev G e).E st) fun r s1 => some (.rt r.1 r.2 s1)) D → WS X (.Return (some v) pos) D σ H := fun h =>
      ofPS (ps_ret peW) (stE ok hm1 R h fun r v st1 S1 H1 ms1 x1 R1 q1 h1 => h1 v σ S1 H1 ms1 .refl R1 q1)
    cases e with
    | var i =>
      have h : PSm X.K G.nm en W S H ms (match st.sl[i]? with
        | some (some (o, d)) => some (.rt o d { st with sl := st.sl.set i none })
        | _ => none) D := h
      refine ofPS (ps_ret (name_ok (m := .var i) (i := i) rfl ok.x hm1).1) ?_
      split at h
      · rename_i o d eq
        cases o with
        | false =>
          obtain ⟨w, e1, v, e2, rv⟩ := R.slots i _ eq
          refine ⟨v, by rw [e1, e2], h v σ S H ms .refl R.forget rv⟩
        | true =>
          obtain ⟨p, xs, l, rfl, hp, h1, h2, h3, h4, h5⟩ := R.ownAt eq
          have O : Own X.K G.nm en S H ms σ { st with sl := st.sl.set i none } l p := ⟨h1, h5, ⟨xs, h2, h3⟩, h4, fun j d hj hs => by
            have hj : (st.sl.set i none)[j]? = some (some (true, d)) := hj
            by_cases z : i = j
            · subst z
              rw [List.getElem?_set] at hj
              simp only [if_true] at hj
              split at hj <;> cases hj
            · rw [List.getElem?_set_ne z] at hj
              exact R.inj i j _ _ p z eq hj hp hs, fun r hr z => (R.pin r hr).2.2.2.2 i _ eq (by rw [hp, z])⟩
          exact ⟨.ref p, hp, h (.ref p) σ S H ms .refl R.forget ⟨p, l, rfl, rfl, O⟩⟩
      · exact h.elim
    | _ => exact gen h
  · cases hm1
/-- a field put, as it lies -/
theorem put_zip {K : PySem.W.Frag} {nm : Nat → Str} (inj : ∀ i j, nm i = nm j → i = j) {f : Nat} {d : D} {v : V} (rd : Rep K nm S H ms d v) : ∀ {fs : List Nat} {l : List D} {vs : List V}, fs.length = l.length → RepL K nm S H ms l vs →
    ∃ vs', putF (nm f) v ((fs.map nm).zip vs) = (((putD f d fs l).1.map nm).zip vs') ∧ (putD f d fs l).1.length = (putD f d fs l).2.length ∧ RepL K nm S H ms (putD f d fs l).2 vs'
  | [], [], [], _, _ => ⟨[v], rfl, rfl, rd, trivial⟩
  | [], [], _ :: _, _, h => h.elim
  | [], _ :: _, _, h, _ => by simp at h
  | _ :: _, [], _, h, _ => by simp at h
  | _ :: _, _ :: _, [], _, h => h.elim
  | g :: fs, x :: l, u :: vs, hl, h => by
    by_cases e : g = f
    · subst e
      refine ⟨v :: vs, ?_, ?_, ?_⟩
      · show (if nm g = nm g then (nm g, v) :: ((fs.map nm).zip vs) else _) = _
        rw [if_pos rfl]
        simp [putD]
      · simp [putD]
        simpa using hl
      · have : (putD g d (g :: fs) (x :: l)).2 = d :: l := by simp [putD]
        rw [this]
        exact ⟨rd, h.2⟩
    · obtain ⟨vs', e1, e2, e3⟩ := put_zip inj rd (fs := fs) (l := l) (vs := vs) (by simpa using hl) h.2
      have e0 : putD f d (g :: fs) (x :: l) = (g :: (putD f d fs l).1, x :: (putD f d fs l).2) := by simp [putD, e]
      refine ⟨u :: vs', ?_, ?_, ?_⟩
      · show (if nm g = nm f then _ else (nm g, u) :: putF (nm f) v ((fs.map nm).zip vs)) = _
        rw [if_neg (fun z => e (inj _ _ z)), e1, e0]
        rfl
      · rw [e0]
        simpa using e2
      · rw [e0]
        exact ⟨h.1, e3⟩
/-- a thing that changes is changed -/
theorem obSet {K : PySem.W.Frag} {nm : Nat → Str} (R : SR K nm en S H ms σ st) {n : Nat} {a : Addr} {o : HO} {oe : OE} (ha : ms[n]? = some a) (h : OeR K nm S (upd H a o) ms oe a) : 
    Ext S H ms S (upd H a o) ms ∧ SR K nm en S (upd H a o) ms σ { st with ob := st.ob.set n oe } := by
  have am : a ∈ ms := List.mem_of_getElem? ha
  have x : Ext S H ms S (upd H a o) ms := ⟨fun _ s => s, fun b s => upd_ne fun z => R.b.s_ms a am (z ▸ s), [], by simp⟩
  refine ⟨x, ⟨fun b s => ?_, R.b.s_ms, R.b.nd, by simpa using R.b.len, fun j b o' h1 h2 => ?_⟩, ⟨R.fr.sub, R.fr.new, R.fr.pre, fun b o' hb' hn => ?_, fun b h => ?_⟩, R.len, fun i r hi => ?_, R.inj, fun q hq => ?_⟩
  · rw [upd_ne (show b ≠ a from fun z => R.b.s_ms a am (z ▸ s))]
    exact R.b.s_in b s
  · have h2 : (st.ob.set n oe)[j]? = some o' := h2
    by_cases z : n = j
    · subst z
      rw [ha] at h1
      cases h1
      have hn : n < st.ob.length := by
        rw [← R.b.len]
        exact (List.getElem?_eq_some_iff.mp ha).1
      rw [List.getElem?_set_self hn] at h2
      cases h2
      exact h
    · rw [List.getElem?_set_ne z] at h2
      have hba : b ≠ a := fun w => by
        subst w
        have := R.b.nd
        exact z ((List.getElem?_inj (List.getElem?_eq_some_iff.mp ha).1 this).mp (by rw [ha, h1]))
      exact (R.b.obs j b o' h1 h2).ext x (upd_ne hba)
  · have hb : b ≠ a := fun z => by
      subst z
      obtain ⟨t, e1, ht⟩ := R.fr.pre
      rw [e1] at am
      rcases List.mem_append.mp am with m | m
      · exact hn m
      · rw [ht b m] at hb'
        cases hb'
    rw [upd_ne hb]
    exact R.fr.keep b o' hb' hn
  · by_cases z : b = a
    · rw [z, upd_same]
      exact fun z => nomatch z
    · rw [upd_ne z]
      exact R.fr.stay b h
  · obtain ⟨o', e1, h1⟩ := R.slots i r hi
    refine ⟨o', e1, h1.ext (σ := σ) (st := st) x (fun q hq hH he hm hex => ⟨hq, upd_ne fun z => hm (z ▸ am), hm⟩) hi e1⟩
  · obtain ⟨h1, h2, h3, h4, h5⟩ := R.pin q hq
    exact ⟨(upd_ne fun (z : q.1 = a) => h3 (by rw [z]; exact am)).trans h1, h2, h3, h4, h5⟩
theorem snd1_fld {i f : Nat} {e : ME} : Snd1 G (.fld i f e) := by
  intro k X cx W ok s hm en S H ms σ st D R h
  have hm1 : (match [s] with
    | [.Assign [.Attribute (.Name x _) y _] v _] => visB cx.sc x && decide (cx.N[i]? = some x) && okN x && decide (y = cx.nm f) && mt e cx [v] && notComp v
    | _ => false) = true := hm
  split at hm1
  · rename_i x xp y yp v pos e0
    cases e0
    obtain ⟨g0, g5, g6⟩ := and3 hm1
    obtain ⟨g0, g3, g4⟩ := and3 g0
    obtain ⟨g1, g2⟩ := and2 g0
    refine ofPS (ps_fld (pe_var (ok.x.slot g2) (ok.x.vis g1) (okN_1 g3).1 (okN_1 g3).2) peW (comp_sw g6)) ?_
    refine stSh ok g5 R h fun r1 v1 st1 S1 H1 ms1 x1 R1 q1 h1 => ?_
    split at h1
    · rename_i n en
      split at h1
      · rename_i c fs l eo
        split at h1
        · rename_i hc
          obtain ⟨w, ew, rw1⟩ := R1.peekW en
          obtain ⟨a, rfl, ha⟩ := rw1
          obtain ⟨dx, vs, h3, h4, h5⟩ := R1.b.obs n a _ ha eo
          obtain ⟨cl, na⟩ := ok.x.g.att c f hc.2
          have hx : Ext S1 H1 ms1 S1 (upd H1 a (.ins (He.ga X.K (G.nm c)) dx (putF y v1 ((fs.map G.nm).zip vs)))) ms1 := ⟨fun _ s => s, fun b s => upd_ne fun z => R1.b.s_ms a (List.mem_of_getElem? ha) (z ▸ s), [], by simp⟩
          have ey : y = G.nm f := by
            have := of_decide_eq_true g4
            rw [this, ok.x.nm]
          subst ey
          obtain ⟨vs', e1, e2, e3⟩ := put_zip ok.x.g.inj (f := f) q1 h4 h5
          obtain ⟨x2, R2⟩ := obSet R1 (n := n) (o := .ins (He.ga X.K (G.nm c)) dx (putF (G.nm f) v1 ((fs.map G.nm).zip vs))) (oe := .ins c (putD f r1.2 fs l).1 (putD f r1.2 fs l).2) ha ⟨dx, vs', by rw [upd_same, e1], e2, e3.ext hx⟩
          refine ⟨.ref a, ew, a, _, dx, _, rfl, h3, cl, na, ?_, h1 σ S1 _ ms1 x2 R2⟩
          rw [List.length_zip, List.length_map]
          omega
        · exact h1.elim
      · exact h1.elim
    · exact h1.elim
  · cases hm1
theorem snd1_stk : Snd1 G .stk := by
  intro k X cx W ok s hm en S H ms σ st D R h
  exact h.elim
theorem all_sndM : ∀ m, SndM G m
  | .nil => ⟨fun _ => sndS_nil, fun h => nomatch h⟩
  | .seq a b => ⟨fun _ => sndS_seq (all_sndM a) (all_sndM b), fun h => nomatch h⟩
  | .asg _ _ => ⟨fun h => (nomatch h), fun _ => snd1_asg⟩
  | .asgc _ _ => ⟨fun h => (nomatch h), fun _ => snd1_asgc⟩
  | .tas _ _ => ⟨fun h => (nomatch h), fun _ => snd1_tas⟩
  | .par2 _ _ _ _ => ⟨fun h => (nomatch h), fun _ => snd1_par2⟩
  | .par3 _ _ _ _ _ _ => ⟨fun h => (nomatch h), fun _ => snd1_par3⟩
  | .sub _ _ _ => ⟨fun h => (nomatch h), fun _ => snd1_sub⟩
  | .fld _ _ _ => ⟨fun h => (nomatch h), fun _ => snd1_fld⟩
  | .ex _ => ⟨fun h => (nomatch h), fun _ => snd1_ex⟩
  | .ite _ a b => ⟨fun h => (nomatch h), fun _ => snd1_ite (all_sndM a) (all_sndM b)⟩
  | .whl _ a => ⟨fun h => (nomatch h), fun _ => snd1_whl (all_sndM a)⟩
  | .forn _ _ a => ⟨fun h => (nomatch h), fun _ => snd1_forn (all_sndM a)⟩
  | .fort _ _ a => ⟨fun h => (nomatch h), fun _ => snd1_fort (all_sndM a)⟩
  | .ret _ => ⟨fun h => (nomatch h), fun _ => snd1_ret⟩
  | .retN => ⟨fun h => (nomatch h), fun _ => snd1_retN⟩
  | .rai _ _ => ⟨fun h => (nomatch h), fun _ => snd1_rai⟩
  | .pas => ⟨fun h => (nomatch h), fun _ => snd1_pas⟩
  | .stk => ⟨fun h => (nomatch h), fun _ => snd1_stk⟩
end
end Ev
set_option Elab.async false
set_option linter.all false
set_option maxRecDepth 100000
set_option maxHeartbeats 4000000
/-! Ev8: a def keeps its promise; all defs of a text at once, by a number of turns. -/
namespace Ev
open PySem PySem.Spec L2

section
variable {P : Program} {w : World} {K : PySem.W.Frag} {mg : Str → Option Value} {base : Heap}
theorem reps_start {nm : Nat → Str} {S : AS} {H : Hp} {ms : List Addr} {N : List Str} {ds : List D} {vs : List V} {ob : List OE} (b : SB K nm S H ms ob) (r : RepL K nm S H ms ds vs) :
    SR K nm ⟨S, H, ms, []⟩ S H ms (start N vs) ⟨ds.map (fun d => some (false, d)) ++ List.replicate (N.length - ds.length) none, ob⟩ := by
  have hl := r.len
  have noown : ∀ (i : Nat) (d : D), (ds.map (fun d => some (false, d)) ++ List.replicate (N.length - ds.length) none)[i]? ≠ some (some (true, d)) := fun i d z => by
    rw [List.getElem?_append] at z
    split at z
    · rw [List.getElem?_map] at z
      cases q : ds[i]? with
      | none =>
        rw [q] at z
        cases z
      | some x =>
        rw [q] at z
        cases z
    · rw [List.getElem?_replicate] at z
      split at z <;> cases z
  refine ⟨b, Fr.refl (e := ⟨S, H, ms, []⟩) b, ?_, fun i r' hi => ?_, fun i j d d' p hij h1 => absurd h1 (noown i d), fun q hq => by simp at hq⟩
  · show (vs.map some ++ List.replicate (N.length - vs.length) none).length = (ds.map (fun d => some (false, d)) ++ List.replicate (N.length - ds.length) none).length
    simp [hl]
  · obtain ⟨own, d⟩ := r'
    cases own with
    | true => exact absurd hi (noown i d)
    | false =>
      have hi : (ds.map (fun d => some (false, d)) ++ List.replicate (N.length - ds.length) none)[i]? = some (some (false, d)) := hi
      rw [List.getElem?_append] at hi
      split at hi
      · rw [List.getElem?_map] at hi
        cases q : ds[i]? with
        | none =>
          rw [q] at hi
          cases hi
        | some x =>
          rw [q] at hi
          cases hi
          obtain ⟨v, e1, e2⟩ := r.get q
          refine ⟨some v, ?_, v, rfl, e2⟩
          show (vs.map some ++ List.replicate (N.length - vs.length) none)[i]? = _
          rw [List.getElem?_append_left (by rw [List.length_map]; exact (List.getElem?_eq_some_iff.mp e1).1), List.getElem?_map, e1]
          rfl
      · rw [List.getElem?_replicate] at hi
        split at hi <;> cases hi
theorem def_ok {G : Tab} {k : Nat} {x qual : Str} {params : Arguments} {body : List Stmt} {scope : Scope} {dvs : List V} {kws : List (Str × V)} {f : Addr} {fd : FuncData} {N ps : List Str} {b : MS} (F : FunD K x qual params body scope dvs kws f fd) (S : FnScope N ps scope)
    (g : GOk P w K mg base k G) (ne : ∀ c, G.exc c = none) (hb : isBlk b = true) (hm : mtS b ⟨N, scope, G.nm⟩ body = true) : FnOk P w K mg base (L2.CX P w) (k + 2) f fd ps (spS K G.nm ps.length (defSem G N.length b)) := by
  refine F.ok S (fun vs H Q E h => ?_) (fun cdv A outer s H vs Q E hr h => ?_)
  · obtain ⟨S, ms, ds, ob, r, h1, h2, h3, _⟩ := h
    rw [← h2.len, h3]
  · obtain ⟨S0, ms, ds, ob, r, h1, h2, h3, h4, h5⟩ := h
    refine ⟨_, pssW, ?_⟩
    have ok : SOk G k (cxOf (L2.CX P w) P w K mg base N qual scope f cdv A outer s H E) ⟨N, scope, G.nm⟩ (fun cls d _ H => E cls d H) :=
      ⟨⟨rfl, rfl, S.nd, rfl, rfl, takes_of rfl rfl rfl rfl, hr, g⟩, passes_of rfl, S.kind, fun _ => rfl, ne⟩
    refine (all_sndM b).blk hb ok hm (reps_start h1 h2) ?_
    have h4 : (match evS G b ⟨ds.map (fun d => some (false, d)) ++ List.replicate (N.length - ds.length) none, ob⟩ with
      | none => none
      | some (.nx s) => some (.ret false .non s.ob)
      | some (.rt own d s) => some (.ret own d s.ob)
      | some (.exc c fs l s) => some (.exc c fs l s.ob)) = some r := h4
    split at h4
    · cases h4
    · rename_i s' es
      cases h4
      rw [es]
      exact fun σ' S' H' ms' x R => h5 .non H' S' ms' R.fr R.b rfl
    · rename_i own d s' es
      cases h4
      rw [es]
      intro v σ' S' H' ms' x R q
      refine h5 v H' S' ms' R.fr R.b ?_
      cases own with
      | false => exact q
      | true =>
        obtain ⟨p, l, e1, e2, O⟩ := q
        exact ⟨p, l, e1, e2, O.nS, O.nM, O.new, O.at_⟩
    · rename_i c fs l s' es
      cases h4
      rw [es]
      exact fun d σ' S' H' ms' x R q => h5 d H' S' ms' R.fr R.b q
end
/-! ### a text's defs -/
structure Code where
  d : He.DefD
  ps : List Str
  N : List Str
  b : MS
  dfl : List D := []
def scB (N P : List Str) (sc : Scope) : Bool := (match sc.kind with | .function => true | _ => false) && !sc.isCoroutine && !sc.isGenerator && decide N.Nodup && decide (N.take P.length = P) && P.all (fun x => locB sc x) && sc.names.all (fun y => match y.2 with | .free => false | _ => true)
theorem scB_ok {N P : List Str} {sc : Scope} (h : scB N P sc = true) : FnScope N P sc := by
  obtain ⟨h, h6, h7⟩ := and3 (show ((match sc.kind with | .function => true | _ => false) && !sc.isCoroutine && !sc.isGenerator && decide N.Nodup && decide (N.take P.length = P) && P.all (fun x => locB sc x) && sc.names.all (fun y => match y.2 with | .free => false | _ => true)) = true from h)
  obtain ⟨h, h4, h5⟩ := and3 h
  obtain ⟨h1, h2, h3⟩ := and3 h
  refine ⟨?_, by simpa using h2, by simpa using h3, of_decide_eq_true h4, of_decide_eq_true h5, fun x hx => ?_, fun y hy z => ?_⟩
  · split at h1
    · assumption
    · cases h1
  · have := List.all_eq_true.mp h6 x hx
    unfold locB at this
    split at this
    · rename_i e; exact .inl e
    · rename_i e; exact .inr e
    · cases this
  · have := List.all_eq_true.mp h7 y hy
    rw [z] at this
    cases this
def Code.sem (c : Code) (F : FSem) : FSem := fun ds ob => if (ds ++ c.dfl.drop (ds.length + c.dfl.length - c.ps.length)).length = c.ps.length then F (ds ++ c.dfl.drop (ds.length + c.dfl.length - c.ps.length)) ob else none
def Code.chk (nm : Nat → Str) (c : Code) : Bool := scB c.N c.ps c.d.scope && isBlk c.b && mtS c.b ⟨c.N, c.d.scope, nm⟩ c.d.body
structure Lw where
  nm : Nat → Str
  cds : List Code
  fnI : Nat → Option Nat
  mthI : Nat → Nat → Option Nat
  mkI : Nat → Option (Nat × Bool)
  att : Nat → Nat → Bool
  cst : Nat → Option D
noncomputable def semT (L : Lw) (G : Tab) (j : Nat) : Option FSem := (L.cds[j]?).map fun c => c.sem (defSem G c.N.length c.b)
noncomputable def tab (L : Lw) : Nat → Tab
  | 0 => ⟨L.nm, fun _ => none, fun _ _ => none, fun _ => none, L.cst, L.att, fun _ => none⟩
  | n + 1 => ⟨L.nm, fun i => (L.fnI i).bind (semT L (tab L n)), fun c m => (L.mthI c m).bind (semT L (tab L n)), fun c => (L.mkI c).bind fun x => (semT L (tab L n) x.1).map fun F => if x.2 = true then mkF c F else mkM c F, L.cst, L.att, fun _ => none⟩
theorem tab_nm {L : Lw} : ∀ n, (tab L n).nm = L.nm
  | 0 => rfl
  | _ + 1 => rfl
theorem tab_cst {L : Lw} : ∀ n, (tab L n).cst = L.cst
  | 0 => rfl
  | _ + 1 => rfl
theorem tab_att {L : Lw} : ∀ n, (tab L n).att = L.att
  | 0 => rfl
  | _ + 1 => rfl
theorem tab_exc {L : Lw} : ∀ n c, (tab L n).exc c = none
  | 0, _ => rfl
  | _ + 1, _ => rfl
structure CodeOk (nm : Nat → Str) (K : PySem.W.Frag) (c : Code) : Prop where
  chk : c.chk nm = true
  ex : ∃ fd, FunD K c.d.name c.d.qual c.d.params c.d.body c.d.scope (c.d.dvs K) (c.d.kws K) (He.fAd K c.d.at_) fd ∧
    ∀ j, j ≤ c.dfl.length → ∃ (dvs : List V) (dv : List Value), (∀ S H ms, RepL K nm S H ms (c.dfl.drop j) dvs) ∧ Vals dvs dv ∧ Binds K fd c.ps dv
structure Lk (L : Lw) (K : PySem.W.Frag) (mg : Str → Option Value) : Prop where
  blt : ∀ x, x ∈ bltNs → mg x = none
  inj : ∀ i j, L.nm i = L.nm j → i = j
  cd : ∀ c, c ∈ L.cds → CodeOk L.nm K c
  fn : ∀ i j, L.fnI i = some j → ∀ c, L.cds[j]? = some c → mg (L.nm i) = some (.ref (He.fAd K c.d.at_)) ∧ PySem.W.keepIn K (.ref (He.fAd K c.d.at_)) = true
  mth : ∀ x m j, L.mthI x m = some j → ∀ c, L.cds[j]? = some c → Cls K (He.ga K (L.nm x)) ∧ Meth K (He.ga K (L.nm x)) (L.nm m) (He.fAd K c.d.at_)
  mks : ∀ x j, L.mkI x = some j → ∀ c, L.cds[j.1]? = some c → mg (L.nm x) = some (.ref (He.ga K (L.nm x))) ∧ Mk K (He.ga K (L.nm x)) (He.fAd K c.d.at_)
  att : ∀ c f, L.att c f = true → Cls K (He.ga K (L.nm c)) ∧ NoAttr K (He.ga K (L.nm c)) (L.nm f)
  cst : ∀ i d, L.cst i = some d → ∃ u v, mg (L.nm i) = some u ∧ RelV v u ∧ ∀ S H ms, Rep K L.nm S H ms d v
section
variable {P : Program} {w : World} {K : PySem.W.Frag} {mg : Str → Option Value} {base : Heap} {L : Lw}
theorem code_callee {G : Tab} {k : Nat} {c : Code} {At : Addr → Prop} (hn : G.nm = L.nm) (ne : ∀ c, G.exc c = none) (g : GOk P w K mg base k G) (ok : CodeOk L.nm K c) (ha : At (He.fAd K c.d.at_)) : Callee P w K mg base (k + 2) L.nm (c.sem (defSem G c.N.length c.b)) At := by
  obtain ⟨fd, F, hB⟩ := ok.ex
  obtain ⟨c1, c2, c3⟩ := and3 (show (scB c.N c.ps c.d.scope && isBlk c.b && mtS c.b ⟨c.N, c.d.scope, L.nm⟩ c.d.body) = true from ok.chk)
  have FO := def_ok F (scB_ok c1) g ne c2 (by rw [hn]; exact c3)
  rw [hn] at FO
  refine ⟨_, fd, c.ps, _, FO, ha, fun ds ob r h => ?_⟩
  unfold Code.sem at h
  split at h
  · rename_i hl
    have hj : ds.length + c.dfl.length - c.ps.length ≤ c.dfl.length ∨ c.dfl.drop (ds.length + c.dfl.length - c.ps.length) = c.dfl.drop c.dfl.length := by
      by_cases z : ds.length + c.dfl.length - c.ps.length ≤ c.dfl.length
      · exact .inl z
      · refine .inr ?_
        rw [List.drop_eq_nil_of_le (by omega), List.drop_eq_nil_of_le (Nat.le_refl _)]
    rcases hj with hj | hj
    · obtain ⟨dvs, dv, h1, h2, h3⟩ := hB _ hj
      exact ⟨_, dvs, dv, h1, h2, h3, hl, h⟩
    · rw [hj] at hl h
      obtain ⟨dvs, dv, h1, h2, h3⟩ := hB _ (Nat.le_refl _)
      exact ⟨_, dvs, dv, h1, h2, h3, hl, h⟩
  · cases h
theorem tab_ok (lk : Lk L K mg) : ∀ n, GOk P w K mg base (2 * n) (tab L n)
  | 0 => ⟨lk.blt, lk.inj, fun _ _ h => (nomatch h), fun _ _ _ h => (nomatch h), fun _ _ h => (nomatch h), lk.att, lk.cst⟩
  | n + 1 => by
    have g := tab_ok lk n
    refine ⟨lk.blt, lk.inj, fun i sem h => ?_, fun c m sem h => ?_, fun c sem h => ?_, lk.att, lk.cst⟩
    · have h : (L.fnI i).bind (semT L (tab L n)) = some sem := h
      cases e : L.fnI i with
      | none =>
        rw [e] at h
        cases h
      | some j =>
        rw [e] at h
        have h : (L.cds[j]?).map (fun c => c.sem (defSem (tab L n) c.N.length c.b)) = some sem := h
        cases e2 : L.cds[j]? with
        | none =>
          rw [e2] at h
          cases h
        | some c =>
          rw [e2] at h
          cases h
          exact code_callee (tab_nm n) (tab_exc n) g (lk.cd c (List.mem_of_getElem? e2)) (lk.fn i j e c e2)
    · have h : (L.mthI c m).bind (semT L (tab L n)) = some sem := h
      cases e : L.mthI c m with
      | none =>
        rw [e] at h
        cases h
      | some j =>
        rw [e] at h
        have h : (L.cds[j]?).map (fun c => c.sem (defSem (tab L n) c.N.length c.b)) = some sem := h
        cases e2 : L.cds[j]? with
        | none =>
          rw [e2] at h
          cases h
        | some x =>
          rw [e2] at h
          cases h
          obtain ⟨h1, h2⟩ := lk.mth c m j e x e2
          exact ⟨h1, code_callee (tab_nm n) (tab_exc n) g (lk.cd x (List.mem_of_getElem? e2)) h2⟩
    · have h : ((L.mkI c).bind fun x => (semT L (tab L n) x.1).map fun F => if x.2 = true then mkF c F else mkM c F) = some sem := h
      cases e : L.mkI c with
      | none =>
        rw [e] at h
        cases h
      | some j =>
        rw [e] at h
        have h : ((L.cds[j.1]?).map (fun c => c.sem (defSem (tab L n) c.N.length c.b))).map (fun F => if j.2 = true then mkF c F else mkM c F) = some sem := h
        cases e2 : L.cds[j.1]? with
        | none =>
          rw [e2] at h
          cases h
        | some x =>
          rw [e2] at h
          cases h
          obtain ⟨h1, h2⟩ := lk.mks c j e x e2
          refine ⟨h1, _, ?_, code_callee (tab_nm n) (tab_exc n) g (lk.cd x (List.mem_of_getElem? e2)) h2⟩
          by_cases z : j.2 = true
          · exact .inl (if_pos z)
          · exact .inr (if_neg z)
end
end Ev
set_option Elab.async false
set_option linter.all false
set_option maxRecDepth 100000
set_option maxHeartbeats 4000000
/-! Ev9: from the head's facts to the tables; the law's end. -/
namespace Ev
open PySem PySem.Spec L2

def mkNm (names : List Str) (i : Nat) : Str := match names[i]? with
  | some x => x
  | none => ⟨Array.replicate (i + 1) 126⟩
def nmOk (names : List Str) : Bool := decide names.Nodup && names.all fun x => !(x.cps[0]? == some 126)
theorem mkNm_inj {names : List Str} (h : nmOk names = true) : ∀ i j, mkNm names i = mkNm names j → i = j := by
  obtain ⟨h1, h2⟩ := and2 (show (decide names.Nodup && names.all fun x => !(x.cps[0]? == some 126)) = true from h)
  have h1 := of_decide_eq_true h1
  have tl : ∀ (i j : Nat) (x : Str), names[i]? = some x → names[j]? = none → x ≠ (⟨Array.replicate (j + 1) 126⟩ : Str) := fun i j x hi hj e => by
    have := List.all_eq_true.mp h2 x (List.mem_of_getElem? hi)
    rw [e] at this
    simp at this
  intro i j e
  unfold mkNm at e
  cases hi : names[i]? with
  | some x =>
    cases hj : names[j]? with
    | some y =>
      rw [hi, hj] at e
      have e : x = y := e
      subst e
      exact (List.getElem?_inj (List.getElem?_eq_some_iff.mp hi).1 h1).mp (by rw [hi, hj])
    | none =>
      rw [hi, hj] at e
      exact absurd e (tl i j x hi hj)
  | none =>
    cases hj : names[j]? with
    | some y =>
      rw [hi, hj] at e
      exact absurd e.symm (tl j i y hj hi)
    | none =>
      rw [hi, hj] at e
      have e : (⟨Array.replicate (i + 1) 126⟩ : Str) = ⟨Array.replicate (j + 1) 126⟩ := e
      have e2 := congrArg (fun s : Str => s.cps.size) e
      simp at e2
      exact e2
structure Tb where
  names : List Str
  cds : List Code
  fnL : List (Nat × Nat)
  mthL : List ((Nat × Nat) × Nat)
  mkL : List (Nat × (Nat × Bool))
  clsL : List Nat
  attL : List (Nat × Nat)
  cstI : List (Nat × Int) := []
  cstS : List (Nat × Str) := []
def Tb.nm (t : Tb) : Nat → Str := mkNm t.names
def Tb.lw (t : Tb) : Lw := ⟨t.nm, t.cds, fun i => t.fnL.lookup i, fun c m => t.mthL.lookup (c, m), fun c => t.mkL.lookup c, fun c f => t.attL.contains (c, f), fun i => match t.cstI.lookup i with
  | some z => some (.int z)
  | none => (t.cstS.lookup i).map .str⟩
def Tb.fa (t : Tb) : List He.Fa := bltNs.map .free ++ (t.fnL.map (fun x => .glo (t.nm x.1)) ++ (t.mthL.map (fun x => .meth (t.nm x.1.1) (t.nm x.1.2)) ++ (t.clsL.map (fun x => .cls (t.nm x)) ++ (t.mkL.map (fun x => .glo (t.nm x.1)) ++ (t.mkL.map (fun x => .mkr (t.nm x.1)) ++
  (t.attL.map (fun x => .noat (t.nm x.1) (t.nm x.2)) ++ (t.cstI.map (fun x => .int (t.nm x.1) x.2) ++ t.cstS.map (fun x => .str (t.nm x.1) x.2))))))))
def Tb.fn (t : Tb) : List He.DefD := t.cds.map (·.d)
def atB (t : Tb) (j : Nat) (p : Str × Option Str) : Bool := match t.cds[j]? with
  | some c => decide (c.d.at_ = p)
  | none => true
def Tb.chk1 (t : Tb) : Bool := nmOk t.names && (t.fnL.all fun x => atB t x.2 (t.nm x.1, none)) && (t.mthL.all fun x => atB t x.2 (t.nm x.1.1, some (t.nm x.1.2)) && t.clsL.contains x.1.1) && (t.mkL.all fun x => atB t x.2.1 (t.nm x.1, some "__init__")) && (t.attL.all fun x => t.clsL.contains x.1)
def BindOk (K : PySem.W.Frag) (nm : Nat → Str) (c : Code) : Prop := ∀ fd, FunD K c.d.name c.d.qual c.d.params c.d.body c.d.scope (c.d.dvs K) (c.d.kws K) (He.fAd K c.d.at_) fd →
    ∀ j, j ≤ c.dfl.length → ∃ (dvs : List V) (dv : List Value), (∀ S H ms, RepL K nm S H ms (c.dfl.drop j) dvs) ∧ Vals dvs dv ∧ Binds K fd c.ps dv
theorem bindN {K : PySem.W.Frag} {nm : Nat → Str} {c : Code} (h1 : c.d.dfl = []) (h0 : c.dfl = [])
    (h : ∀ (kV doc pm : Value) (an : Option Addr) (cdv ct : Value) (us : List Value), us.length = c.ps.length → bindArgs (PySem.W.fnOf c.d.name c.d.qual c.d.params c.d.body c.d.scope .none kV doc pm an cdv ct) ⟨us, []⟩ = pure (c.ps.zip us)) : BindOk K nm c := by
  intro fd F j hj
  have e : c.d.dvs K = [] := by unfold He.DefD.dvs; rw [h1]; rfl
  rw [e] at F
  rw [h0]
  exact ⟨[], [], fun _ _ _ => by rw [List.drop_nil]; exact trivial, .nil, F.bindsN h⟩
/-- one default, an int -/
theorem bind1 {K : PySem.W.Frag} {nm : Nat → Str} {c : Code} {i : Int} (n : Nat) (hn : n + 1 = c.ps.length) (h1 : c.d.dfl = [.int i]) (h0 : c.dfl = [.int i])
    (ha : ∀ (T : Addr) (kV doc pm : Value) (an : Option Addr) (cdv ct : Value) (us its : List Value), us.length = n → its.length = 1 →
      ∃ k, bindArgs (PySem.W.fnOf c.d.name c.d.qual c.d.params c.d.body c.d.scope (.ref T) kV doc pm an cdv ct) ⟨us, []⟩ = seqItems? (.ref T) >>= k ∧ k (some its.toArray) = pure (c.ps.zip (us ++ its.drop 0)))
    (hb : ∀ (T : Addr) (kV doc pm : Value) (an : Option Addr) (cdv ct : Value) (us its : List Value), us.length = n + 1 → its.length = 1 →
      ∃ k, bindArgs (PySem.W.fnOf c.d.name c.d.qual c.d.params c.d.body c.d.scope (.ref T) kV doc pm an cdv ct) ⟨us, []⟩ = seqItems? (.ref T) >>= k ∧ k (some its.toArray) = pure (c.ps.zip (us ++ its.drop 1))) : BindOk K nm c := by
  intro fd F j hj
  have e : c.d.dvs K = [.int i] := by unfold He.DefD.dvs; rw [h1]; rfl
  rw [e] at F
  rw [h0] at hj ⊢
  match j, hj with
  | 0, _ =>
    obtain ⟨ds, v, b⟩ := F.binds1 n 0 (by simp) (by simpa using hn) ha
    exact ⟨[V.int i], ds, fun _ _ _ => ⟨rfl, trivial⟩, v, b⟩
  | 1, _ =>
    obtain ⟨ds, v, b⟩ := F.binds1 (n + 1) 1 (by simp) (by simpa using hn) hb
    exact ⟨[], ds, fun _ _ _ => trivial, v, b⟩
theorem at_of {t : Tb} {j : Nat} {p : Str × Option Str} (h : atB t j p = true) {c : Code} (e : t.cds[j]? = some c) : c.d.at_ = p := by
  unfold atB at h
  rw [e] at h
  exact of_decide_eq_true h
theorem lookup_mem {α β : Type} [BEq α] [LawfulBEq α] {a : α} {b : β} : ∀ {l : List (α × β)}, l.lookup a = some b → (a, b) ∈ l
  | [], h => nomatch h
  | (x, y) :: r, h => by
    rw [List.lookup_cons] at h
    split at h
    · rename_i e
      cases h
      rw [eq_of_beq e]
      exact List.mem_cons_self ..
    · exact List.mem_cons_of_mem _ (lookup_mem h)
section
variable {K : PySem.W.Frag} {mg : Str → Option Value} {h : Heap} {t : Tb}
theorem fact_mem (c : He.SaysD t.fa t.fn K) {f : He.Fa} (hm : f ∈ t.fa) : f.ok K = true := by
  obtain ⟨i, hi, e⟩ := List.getElem_of_mem hm
  exact c.fact i (by rw [List.getElem?_eq_getElem hi, e])
theorem lk_of (hc : t.chk1 = true) (hcd : ∀ c ∈ t.cds, c.chk t.nm = true) (B : ∀ c ∈ t.cds, BindOk K t.nm c) (X : K.In h) (G : h.Ns mainGlobals mg) (c : He.SaysD t.fa t.fn K) : Lk t.lw K mg := by
  obtain ⟨hc, c4, c5⟩ := and3 (show (nmOk t.names && (t.fnL.all fun x => atB t x.2 (t.nm x.1, none)) && (t.mthL.all fun x => atB t x.2 (t.nm x.1.1, some (t.nm x.1.2)) && t.clsL.contains x.1.1) && (t.mkL.all fun x => atB t x.2.1 (t.nm x.1, some "__init__")) && (t.attL.all fun x => t.clsL.contains x.1)) = true from hc)
  obtain ⟨c1, c2, c3⟩ := and3 hc
  have hcls : ∀ x, t.clsL.contains x = true → Cls K (He.ga K (t.nm x)) := fun x hx => by
    refine He.cls_ok (fact_mem c (f := .cls (t.nm x)) ?_)
    refine List.mem_append_right _ (List.mem_append_right _ (List.mem_append_right _ (List.mem_append_left _ ?_)))
    exact List.mem_map.mpr ⟨x, by simpa using hx, rfl⟩
  have hdef : ∀ c ∈ t.cds, ∃ fd, FunD K c.d.name c.d.qual c.d.params c.d.body c.d.scope (c.d.dvs K) (c.d.kws K) (He.fAd K c.d.at_) fd := fun x hx => by
    obtain ⟨i, hi, e⟩ := List.getElem_of_mem hx
    refine c.def_ i (d := x.d) ?_
    show (t.cds.map (·.d))[i]? = _
    rw [List.getElem?_map, List.getElem?_eq_getElem hi, e]
    rfl
  refine ⟨fun x hx => ?_, mkNm_inj c1, fun x hx => ?_, fun i j hij x hx => ?_, fun a m j hij x hx => ?_, fun a j hij x hx => ?_, fun a f hf => ?_, fun i d hd => ?_⟩
  · refine He.free_ok X G (fact_mem c (f := .free x) ?_)
    exact List.mem_append_left _ (List.mem_map.mpr ⟨x, hx, rfl⟩)
  · obtain ⟨fd, F⟩ := hdef x hx
    exact ⟨hcd x hx, fd, F, B x hx fd F⟩
  · have hm := lookup_mem (l := t.fnL) hij
    have ha := at_of (List.all_eq_true.mp c2 _ hm) hx
    obtain ⟨fd, F⟩ := hdef x (List.mem_of_getElem? hx)
    refine ⟨?_, F.kp⟩
    rw [ha]
    refine He.glo_ok X G (fact_mem c (f := .glo (t.nm i)) ?_)
    exact List.mem_append_right _ (List.mem_append_left _ (List.mem_map.mpr ⟨_, hm, rfl⟩))
  · have hm := lookup_mem (l := t.mthL) hij
    obtain ⟨ha, hc⟩ := and2 (List.all_eq_true.mp c3 _ hm)
    have ha := at_of ha hx
    refine ⟨hcls _ hc, ?_⟩
    rw [ha]
    refine He.meth_ok (fact_mem c (f := .meth (t.nm a) (t.nm m)) ?_)
    exact List.mem_append_right _ (List.mem_append_right _ (List.mem_append_left _ (List.mem_map.mpr ⟨_, hm, rfl⟩)))
  · have hm := lookup_mem (l := t.mkL) hij
    have ha := at_of (List.all_eq_true.mp c4 _ hm) hx
    rw [ha]
    refine ⟨He.glo_ok X G (fact_mem c (f := .glo (t.nm a)) ?_), He.mkr_ok (fact_mem c (f := .mkr (t.nm a)) ?_)⟩
    · exact List.mem_append_right _ (List.mem_append_right _ (List.mem_append_right _ (List.mem_append_right _ (List.mem_append_left _ (List.mem_map.mpr ⟨_, hm, rfl⟩)))))
    · exact List.mem_append_right _ (List.mem_append_right _ (List.mem_append_right _ (List.mem_append_right _ (List.mem_append_right _ (List.mem_append_left _ (List.mem_map.mpr ⟨_, hm, rfl⟩))))))
  · have hm : (a, f) ∈ t.attL := by simpa using (show t.attL.contains (a, f) = true from hf)
    refine ⟨hcls _ (List.all_eq_true.mp c5 _ hm), He.noat_ok (fact_mem c (f := .noat (t.nm a) (t.nm f)) ?_)⟩
    exact List.mem_append_right _ (List.mem_append_right _ (List.mem_append_right _ (List.mem_append_right _ (List.mem_append_right _ (List.mem_append_right _ (List.mem_append_left _ (List.mem_map.mpr ⟨_, hm, rfl⟩)))))))
  · have hd : (match t.cstI.lookup i with
      | some z => some (.int z)
      | none => (t.cstS.lookup i).map .str) = some d := hd
    split at hd
    · rename_i z e
      cases hd
      have hm := lookup_mem e
      obtain ⟨tt, e2⟩ := He.int_ok X G (fact_mem c (f := .int (t.nm i) z) (List.mem_append_right _ (List.mem_append_right _ (List.mem_append_right _ (List.mem_append_right _ (List.mem_append_right _ (List.mem_append_right _ (List.mem_append_right _ (List.mem_append_left _ (List.mem_map.mpr ⟨_, hm, rfl⟩))))))))))
      exact ⟨_, .int z, e2, ⟨_, rfl⟩, fun _ _ _ => rfl⟩
    · cases e : t.cstS.lookup i with
      | none =>
        rw [e] at hd
        cases hd
      | some z =>
        rw [e] at hd
        cases hd
        have hm := lookup_mem e
        obtain ⟨tt, e2⟩ := He.str_ok X G (fact_mem c (f := .str (t.nm i) z) (List.mem_append_right _ (List.mem_append_right _ (List.mem_append_right _ (List.mem_append_right _ (List.mem_append_right _ (List.mem_append_right _ (List.mem_append_right _ (List.mem_append_right _ (List.mem_map.mpr ⟨_, hm, rfl⟩))))))))))
        exact ⟨_, .str z, e2, ⟨_, rfl⟩, fun _ _ _ => rfl⟩
end
/-! ### the law's end -/
def dInts (ns : List Int) : D := .flst (ns.map .int)
theorem start_law {K : PySem.W.Frag} {nm : Nat → Str} {H : Hp} {a : Addr} {ns : List Int} {F : FSem} (hS : SqL K H a (ns.map V.int)) (h : F [dInts ns] [] = some (.ret false (.bl true) [])) : spS K nm 1 F [.ref a] H (fun v _ => v = .bl true) fun _ _ _ => False := by
  have fin : ∀ (S : AS), SB K nm S H [] [] → FzL K S H a (ns.map V.int) → spS K nm 1 F [.ref a] H (fun v _ => v = .bl true) fun _ _ _ => False := fun S b f =>
    ⟨S, [], [dInts ns], [], _, b, ⟨⟨a, _, rfl, f, RepL.intl ns⟩, trivial⟩, rfl, h, fun v H' S' ms' _ _ r => r⟩
  rcases hS with hS | hS
  · refine fin (fun b => b = a) ⟨fun b e => ?_, fun _ h => by simp at h, by simp, rfl, fun n a o h => by simp at h⟩ (.inl ⟨rfl, hS⟩)
    subst e
    rcases hS with h | ⟨o, h⟩
    · rw [h]; exact fun z => nomatch z
    · rw [h]; exact fun z => nomatch z
  · exact fin (fun _ => False) ⟨fun b e => e.elim, fun _ h => by simp at h, by simp, rfl, fun n a o h => by simp at h⟩ (.inr hS)
theorem toCX0 {P : Program} {w : World} {K : PySem.W.Frag} {mg : Str → Option Value} {base : Heap} {k : Nat} {f : Addr} {fd : FuncData} {ps : List Str} {sp : Sp} (F : FnOk P w K mg base (L2.CX P w) k f fd ps sp) :
    FnOk P w K mg base CX0 k f fd ps (fun vs H Q _ => sp vs H Q fun _ _ _ => False) :=
  ⟨fun vs H Q E h => F.len vs H Q _ h, fun A outer s H args us vs Q E hr he hb hv hs => codeAny_mono (F.run A outer s H args us vs Q _ hr he hb hv hs) fun r s' h => by
    cases r with
    | ok x => cases x <;> exact h
    | error e =>
      obtain ⟨_, _, _, _, _, _, _, _, _, _, _, _, z⟩ := h
      exact z⟩
theorem law_end {P : Program} {w : World} {K : PySem.W.Frag} {mg : Str → Option Value} {h : Heap} {f : Addr} {t : Tb} {m j n : Nat} {c : Code} {x : Str} (hc : t.chk1 = true) (hcd : ∀ c ∈ t.cds, c.chk t.nm = true) (B : ∀ c ∈ t.cds, BindOk K t.nm c)
    (hj : t.cds[j]? = some c) (hx : c.ps = [x]) (hat : c.d.at_ = (x', none)) (hdf : c.d.dfl = []) (X : K.In h) (G : h.Ns mainGlobals mg) (s : He.SaysD t.fa t.fn K) (hf : mg x' = some (.ref f)) (hg : mg x' = some (.ref (He.ga K x')))
    (hb : ∀ (kV doc pm : Value) (an : Option Addr) (cdv ct : Value) (us : List Value), us.length = 1 → bindArgs (PySem.W.fnOf c.d.name c.d.qual c.d.params c.d.body c.d.scope .none kV doc pm an cdv ct) ⟨us, []⟩ = pure ([x].zip us))
    (law : ∀ ns : List Int, ns.length ≤ n → defSem (tab t.lw m) c.N.length c.b [dInts ns] [] = some (.ret false (.bl true) [])) :
    ∃ (K : PySem.W.Frag) (fd : FuncData) (sp : Sp), K.In h ∧ (∀ (s : Shared) (u : Value), BindsTo s fd ⟨[u], []⟩ [(x, u)]) ∧
        (∀ (H : Hp) (a : Addr) (ns : List Int), ns.length ≤ n → Only H → SqL K H a (ns.map V.int) → sp [.ref a] H (fun v _ => v = .bl true) fun _ _ _ => False) ∧
        ∀ base : Heap, K.In base → base.Ns mainGlobals mg → FnOk P w K mg base CX0 (2 * m + 2) f fd [x] sp := by
  have lk := lk_of hc hcd B X G s
  obtain ⟨k1, k2⟩ := lk.cd c (List.mem_of_getElem? hj)
  obtain ⟨fd, F, _⟩ := k2
  have ef : He.fAd K c.d.at_ = f := by
    rw [hat]
    rw [hg] at hf
    cases hf
    rfl
  rw [ef] at F
  obtain ⟨c1, c2, c3⟩ := and3 (show (scB c.N c.ps c.d.scope && isBlk c.b && mtS c.b ⟨c.N, c.d.scope, t.nm⟩ c.d.body) = true from k1)
  have e : c.d.dvs K = [] := by unfold He.DefD.dvs; rw [hdf]; rfl
  rw [hx] at c1
  refine ⟨K, fd, fun vs H Q _ => spS K t.nm 1 (defSem (tab t.lw m) c.N.length c.b) vs H Q (fun _ _ _ => False), X, fun s u => ?_, fun H a ns hl _ hS => start_law hS (law ns hl), fun base _ _ => ?_⟩
  · rw [e] at F
    exact F.bindsA (ps := [x]) hb s [u] rfl
  · have := def_ok (P := P) (w := w) (base := base) F (scB_ok c1) (tab_ok (P := P) (w := w) (base := base) lk m) (tab_exc m) c2 (by rw [tab_nm]; exact c3)
    rw [tab_nm] at this
    exact toCX0 this
end Ev
set_option Elab.async false
set_option linter.all false
set_option maxRecDepth 100000
set_option maxHeartbeats 4000000
/-! Sm: what the evaluator comes to, as rows for simp; loops. -/
namespace Ev
open PySem L2

section
variable {G : Tab} {s : Stt}
@[simp] theorem e_var {i : Nat} : (ev G (.var i)).E s = (peek i s).bind fun d => some (.ok (false, d) (demote i s)) := (rfl)
@[simp] theorem t_var {i : Nat} : (ev G (.var i)).T s = (peek i s).bind fun d => val (truD d) s := (rfl)
@[simp] theorem e_con {c : Const} : (ev G (.con c)).E s = (conD c).bind fun d => some (.ok (false, d) s) := (rfl)
@[simp] theorem e_glob {k : Nat} : (ev G (.glob k)).E s = (G.cst k).bind fun d => some (.ok (false, d) s) := (rfl)
@[simp] theorem e_bin {op : Operator} {a b : ME} : (ev G (.bin op a b)).E s = bnd (opnd a (ev G a).E s) fun x s1 => bnd (opnd b (ev G b).E s1) fun y s2 => (late a x s2).bind fun x => (late b y s2).bind fun y => val (binD op x y) s2 := (rfl)
@[simp] theorem e_neg {a : ME} : (ev G (.neg a)).E s = bnd ((ev G a).E s) fun x s1 => (negD x.2).bind fun d => some (.ok (false, d) s1) := (rfl)
@[simp] theorem e_cmp {op : CmpOp} {a b : ME} : (ev G (.cmp op a b)).E s = bnd (opnd a (ev G a).E s) fun x s1 => bnd (opnd b (ev G b).E s1) fun y s2 => (late a x s2).bind fun x => (late b y s2).bind fun y => (cmpD op x y).bind fun r => some (.ok (false, .bl r) s2) := (rfl)
@[simp] theorem e_chain {op op' : CmpOp} {a b c : ME} : (ev G (.chain op op' a b c)).E s = bnd ((ev G a).E s) fun x s1 => bnd ((ev G b).E s1) fun y s2 => (cmpD op x.2 y.2).bind fun r => if r = true then bnd ((ev G c).E s2) fun z s3 => (cmpD op' y.2 z.2).bind fun r => some (.ok (false, .bl r) s3) else some (.ok (false, .bl false) s2) := (rfl)
@[simp] theorem e_not {a : ME} : (ev G (.not a)).E s = bnd (opnd a (ev G a).E s) fun x s1 => (late a x s1).bind fun x => (truD x).bind fun b => some (.ok (false, .bl (!b)) s1) := (rfl)
@[simp] theorem t_not {a : ME} : (ev G (.not a)).T s = bnd ((ev G a).T s) fun b s1 => some (.ok (!b) s1) := (rfl)
@[simp] theorem e_and {a b : ME} : (ev G (.and a b)).E s = bnd ((ev G a).E s) fun x s1 => (truD x.2).bind fun t => if t = true then (ev G b).E s1 else some (.ok (false, x.2) s1) := (rfl)
@[simp] theorem t_and {a b : ME} : (ev G (.and a b)).T s = bnd ((ev G a).T s) fun t s1 => if t = true then (ev G b).T s1 else some (.ok false s1) := (rfl)
@[simp] theorem e_or {a b : ME} : (ev G (.or a b)).E s = bnd ((ev G a).E s) fun x s1 => (truD x.2).bind fun t => if t = true then some (.ok (false, x.2) s1) else (ev G b).E s1 := (rfl)
@[simp] theorem t_or {a b : ME} : (ev G (.or a b)).T s = bnd ((ev G a).T s) fun t s1 => if t = true then some (.ok true s1) else (ev G b).T s1 := (rfl)
@[simp] theorem e_ite {c a b : ME} : (ev G (.ite c a b)).E s = bnd ((ev G c).T s) fun t s1 => if t = true then (ev G a).E s1 else (ev G b).E s1 := (rfl)
@[simp] theorem e_call {k : Nat} {es : ME} : (ev G (.call k es)).E s = (G.fn k).bind fun f => bnd ((ev G es).A s) fun ds s1 => ofFR (f ds s1.ob) s1 := (rfl)
@[simp] theorem e_make {k : Nat} {es : ME} : (ev G (.make k es)).E s = (G.mks k).bind fun f => bnd ((ev G es).A s) fun ds s1 => ofFR (f ds s1.ob) s1 := (rfl)
@[simp] theorem e_meth {m : Nat} {o es : ME} : (ev G (.meth m o es)).E s = bnd ((ev G o).E s) fun x s1 => (clsD m x.2 s1).bind fun c => (G.mth c m).bind fun f => bnd ((ev G es).A s1) fun ds s2 => ofFR (f (x.2 :: ds) s2.ob) s2 := (rfl)
@[simp] theorem e_attr {f : Nat} {o : ME} : (ev G (.attr f o)).E s = bnd ((ev G o).E s) fun x s1 => (attrD G.att f x.2 s1).bind fun d => some (.ok (false, d) s1) := (rfl)
@[simp] theorem e_idx {a b : ME} : (ev G (.idx a b)).E s = bnd (opnd a (ev G a).E s) fun x s1 => bnd (opnd b (ev G b).E s1) fun y s2 => (late a x s2).bind fun x => (late b y s2).bind fun y => (idxD x y).bind fun d => some (.ok (false, d) s2) := (rfl)
@[simp] theorem e_slc {a lo hi : ME} : (ev G (.slc a lo hi)).E s = bnd (opnd a (ev G a).E s) fun x s1 => bnd ((ev G lo).B s1) fun l s2 => bnd ((ev G hi).B s2) fun h s3 => (late a x s3).bind fun x => val (slcD x l h) s3 := (rfl)
@[simp] theorem e_rev {a : ME} : (ev G (.rev a)).E s = bnd (opnd a (ev G a).E s) fun x s1 => (late a x s1).bind fun x => val (revD x) s1 := (rfl)
@[simp] theorem e_lst {es : ME} : (ev G (.lst es)).E s = bnd ((ev G es).A s) fun ds s1 => if ds.length ≤ 16777216 then some (.ok (true, .lst ds) s1) else none := (rfl)
@[simp] theorem e_tup {es : ME} : (ev G (.tup es)).E s = bnd ((ev G es).A s) fun ds s1 => if ds.length ≤ 16777216 then some (.ok (false, .tup ds) s1) else none := (rfl)
@[simp] theorem e_b1 {b : B1} {a : ME} : (ev G (.b1 b a)).E s = bnd (opnd a (ev G a).E s) fun x s1 => (late a x s1).bind fun x => val (b1D b x) s1 := (rfl)
@[simp] theorem e_b2 {b : B2} {a c : ME} : (ev G (.b2 b a c)).E s = bnd ((ev G a).E s) fun x s1 => bnd ((ev G c).E s1) fun y s2 => (b2D b x.2 y.2).bind fun d => some (.ok (false, d) s2) := (rfl)
@[simp] theorem e_isi {t : Ty} {a : ME} : (ev G (.isi t a)).E s = bnd ((ev G a).E s) fun x s1 => (isiD t x.2).bind fun r => some (.ok (false, .bl r) s1) := (rfl)
@[simp] theorem e_comp {e it c : ME} {i : Nat} : (ev G (.comp e i it c)).E s = bnd ((ev G it).I s) fun ds s1 => if i < s1.sl.length then
      noExc (bnd (compR i (ev G e).E (if isNil c = true then none else some (ev G c).T) ds [] { s1 with sl := s1.sl.set i none }) fun acc s2 => some (.ok (true, .lst acc) s2)) else none := (rfl)
@[simp] theorem e_compt {e it c : ME} {is : List Nat} : (ev G (.compt e is it c)).E s = bnd ((ev G it).I s) fun ds s1 => if (is.all fun i => decide (i < s1.sl.length)) = true then
      noExc (bnd (compRT is (ev G e).E (if isNil c = true then none else some (ev G c).T) ds [] { s1 with sl := wipeS is s1.sl }) fun acc s2 => some (.ok (true, .lst acc) s2)) else none := (rfl)
@[simp] theorem i_zip2 {a b : ME} : (ev G (.zip2 a b)).I s = bnd ((ev G a).E s) fun x s1 => bnd ((ev G b).E s1) fun y s2 => val (zipD x.2 y.2) s2 := (rfl)
@[simp] theorem i_compt {e it c : ME} {is : List Nat} : (ev G (.compt e is it c)).I s = itrE (ev G (.compt e is it c)).E s := (rfl)
@[simp] theorem e_app {i : Nat} {e : ME} : (ev G (.app i e)).E s = if ownB i s = true then bnd ((ev G e).E s) fun x s1 => (appD i x.2 s1).bind fun s2 => some (.ok (false, .non) s2) else none := (rfl)
@[simp] theorem e_pop {i : Nat} : (ev G (.pop i)).E s = (popD i s).bind fun r => some (.ok (false, r.1) r.2) := (rfl)
@[simp] theorem a_nil : (ev G .anil).A s = some (.ok [] s) := (rfl)
@[simp] theorem b_nil : (ev G .anil).B s = some (.ok none s) := (rfl)
@[simp] theorem a_cons {e es : ME} : (ev G (.acons e es)).A s = bnd ((ev G e).E s) fun x s1 => bnd ((ev G es).A s1) fun ds s2 => some (.ok (x.2 :: ds) s2) := (rfl)
@[simp] theorem i_rng1 {a : ME} : (ev G (.rng1 a)).I s = bnd ((ev G a).E s) fun x s1 => val (rng1D x.2) s1 := (rfl)
@[simp] theorem i_rng2 {a b : ME} : (ev G (.rng2 a b)).I s = bnd ((ev G a).E s) fun x s1 => bnd ((ev G b).E s1) fun y s2 => val (rng2D x.2 y.2) s2 := (rfl)
@[simp] theorem i_rng3 {a b c : ME} : (ev G (.rng3 a b c)).I s = bnd ((ev G a).E s) fun x s1 => bnd ((ev G b).E s1) fun y s2 => bnd ((ev G c).E s2) fun z s3 => val (rng3D x.2 y.2 z.2) s3 := (rfl)
@[simp] theorem i_rvs {a : ME} : (ev G (.rvs a)).I s = bnd ((ev G a).E s) fun x s1 => val (rvsD x.2) s1 := (rfl)
@[simp] theorem i_rvr1 {a : ME} : (ev G (.rvr1 a)).I s = bnd ((ev G a).E s) fun x s1 => val ((rng1D x.2).map List.reverse) s1 := (rfl)
@[simp] theorem i_rvr2 {a b : ME} : (ev G (.rvr2 a b)).I s = bnd ((ev G a).E s) fun x s1 => bnd ((ev G b).E s1) fun y s2 => val ((rng2D x.2 y.2).map List.reverse) s2 := (rfl)
@[simp] theorem i_enm {a : ME} : (ev G (.enm a)).I s = bnd ((ev G a).E s) fun x s1 => val (enmD x.2) s1 := (rfl)
@[simp] theorem i_var {i : Nat} : (ev G (.var i)).I s = itrE (ev G (.var i)).E s := (rfl)
@[simp] theorem i_lst {es : ME} : (ev G (.lst es)).I s = itrE (ev G (.lst es)).E s := (rfl)
@[simp] theorem i_tup {es : ME} : (ev G (.tup es)).I s = itrE (ev G (.tup es)).E s := (rfl)
@[simp] theorem i_slc {a lo hi : ME} : (ev G (.slc a lo hi)).I s = itrE (ev G (.slc a lo hi)).E s := (rfl)
@[simp] theorem i_call {k : Nat} {es : ME} : (ev G (.call k es)).I s = itrE (ev G (.call k es)).E s := (rfl)
@[simp] theorem i_attr {f : Nat} {o : ME} : (ev G (.attr f o)).I s = itrE (ev G (.attr f o)).E s := (rfl)
@[simp] theorem i_idx {a b : ME} : (ev G (.idx a b)).I s = itrE (ev G (.idx a b)).E s := (rfl)
@[simp] theorem i_bin {op : Operator} {a b : ME} : (ev G (.bin op a b)).I s = itrE (ev G (.bin op a b)).E s := (rfl)
@[simp] theorem b_var {i : Nat} : (ev G (.var i)).B s = bndE (ev G (.var i)).E s := (rfl)
@[simp] theorem b_con {c : Const} : (ev G (.con c)).B s = bndE (ev G (.con c)).E s := (rfl)
@[simp] theorem b_bin {op : Operator} {a b : ME} : (ev G (.bin op a b)).B s = bndE (ev G (.bin op a b)).E s := (rfl)
@[simp] theorem b_neg {a : ME} : (ev G (.neg a)).B s = bndE (ev G (.neg a)).E s := (rfl)
@[simp] theorem t_con {c : Const} : (ev G (.con c)).T s = tstE (ev G (.con c)).E s := (rfl)
@[simp] theorem t_cmp {op : CmpOp} {a b : ME} : (ev G (.cmp op a b)).T s = tstE (ev G (.cmp op a b)).E s := (rfl)
@[simp] theorem t_chain {op op' : CmpOp} {a b c : ME} : (ev G (.chain op op' a b c)).T s = tstE (ev G (.chain op op' a b c)).E s := (rfl)
@[simp] theorem t_call {k : Nat} {es : ME} : (ev G (.call k es)).T s = tstE (ev G (.call k es)).E s := (rfl)
@[simp] theorem t_meth {m : Nat} {o es : ME} : (ev G (.meth m o es)).T s = tstE (ev G (.meth m o es)).E s := (rfl)
@[simp] theorem t_isi {t : Ty} {a : ME} : (ev G (.isi t a)).T s = tstE (ev G (.isi t a)).E s := (rfl)
@[simp] theorem t_attr {f : Nat} {o : ME} : (ev G (.attr f o)).T s = tstE (ev G (.attr f o)).E s := (rfl)
@[simp] theorem t_bin {op : Operator} {a b : ME} : (ev G (.bin op a b)).T s = tstE (ev G (.bin op a b)).E s := (rfl)
/-! #### rows of the small words -/
@[simp] theorem bnd_ok {a : α} {f : α → Stt → Option (O β)} : bnd (some (.ok a s)) f = f a s := (rfl)
@[simp] theorem obnd_ok {a : α} {f : α → Stt → Option Out} : obnd (some (.ok a s)) f = f a s := (rfl)
@[simp] theorem thenO_nx {f : Stt → Option Out} : thenO (some (.nx s)) f = f s := (rfl)
@[simp] theorem thenO_rt {o : Bool} {d : D} {f : Stt → Option Out} : thenO (some (.rt o d s)) f = some (.rt o d s) := (rfl)
@[simp] theorem val_some {a : α} : val (some a) s = some (.ok a s) := (rfl)
@[simp] theorem ofFR_ret {o : Bool} {d : D} {ob : List OE} : ofFR (some (.ret o d ob)) s = some (.ok (o, d) { s with ob := ob }) := (rfl)
@[simp] theorem noExc_ok {a : α} : noExc (some (.ok a s)) = some (.ok a s) := (rfl)
@[simp] theorem opnd_var {i : Nat} {e : Stt → Option (O (Bool × D))} : opnd (.var i) e s = (peek i s).bind fun _ => some (.ok none s) := (rfl)
@[simp] theorem late_some {a : ME} {d : D} : late a (some d) s = some d := (rfl)
@[simp] theorem late_var {i : Nat} : late (.var i) none s = peek i s := (rfl)
@[simp] theorem s_nil : evS G .nil s = some (.nx s) := (rfl)
@[simp] theorem s_pas : evS G .pas s = some (.nx s) := (rfl)
@[simp] theorem s_seq {a b : MS} : evS G (.seq a b) s = thenO (evS G a s) (evS G b) := (rfl)
@[simp] theorem s_asg {i : Nat} {e : ME} : evS G (.asg i e) s = obnd ((ev G e).E s) fun r s1 => (setD i r s1).map .nx := (rfl)
@[simp] theorem s_asgc {i : Nat} {e : ME} : evS G (.asgc i e) s = obnd ((ev G e).E s) fun r s1 => (setD i r s1).map .nx := (rfl)
@[simp] theorem s_tas {is : List Nat} {e : ME} : evS G (.tas is e) s = obnd ((ev G e).E s) fun r s1 => (match r.2 with
    | .tup l => (setAll is l s1).map .nx
    | .lst l => (setAll is l s1).map .nx
    | _ => none) := (rfl)
@[simp] theorem s_par2 {i j : Nat} {a b : ME} : evS G (.par2 i j a b) s = obnd ((ev G a).E s) fun x s1 => obnd ((ev G b).E s1) fun y s2 => ((setD i (false, x.2) s2).bind (setD j (false, y.2))).map .nx := (rfl)
@[simp] theorem s_par3 {i j k : Nat} {a b c : ME} : evS G (.par3 i j k a b c) s = obnd ((ev G a).E s) fun x s1 => obnd ((ev G b).E s1) fun y s2 => obnd ((ev G c).E s2) fun z s3 => (((setD i (false, x.2) s3).bind (setD j (false, y.2))).bind (setD k (false, z.2))).map .nx := (rfl)
@[simp] theorem s_sub {i : Nat} {k e : ME} : evS G (.sub i k e) s = obnd ((ev G e).E s) fun x s1 => (peek i s1).bind fun _ => obnd ((ev G k).E s1) fun y s2 => (match y.2, s2.sl[i]? with
    | .int n, some (some (true, .lst l)) => (ixN l.length n).bind fun j => some (.nx { s2 with sl := s2.sl.set i (some (true, .lst (l.set j x.2))) })
    | _, _ => none) := (rfl)
@[simp] theorem s_fld {i f : Nat} {e : ME} : evS G (.fld i f e) s = obnd ((ev G e).E s) fun x s1 => (match peek i s1 with
    | some (.obj n) => (match s1.ob[n]? with
      | some (.ins c fs l) => if fs.length < 100 ∧ G.att c f = true then some (.nx { s1 with ob := s1.ob.set n (.ins c (putD f x.2 fs l).1 (putD f x.2 fs l).2) }) else none
      | _ => none)
    | _ => none) := (rfl)
@[simp] theorem s_ex {e : ME} : evS G (.ex e) s = obnd ((ev G e).E s) fun _ s1 => some (.nx s1) := (rfl)
@[simp] theorem s_ite {c : ME} {a b : MS} : evS G (.ite c a b) s = obnd ((ev G c).T s) fun t s1 => if t = true then evS G a s1 else evS G b s1 := (rfl)
theorem s_whl {c : ME} {b : MS} : evS G (.whl c b) s = whl ((ev G c).T) (evS G b) s := (rfl)
@[simp] theorem s_forn {i : Nat} {it : ME} {b : MS} : evS G (.forn i it b) s = obnd ((ev G it).I s) fun ds s1 => forR (fun d s => (setD i (false, d) s).bind (evS G b)) ds s1 := (rfl)
@[simp] theorem s_fort {is : List Nat} {it : ME} {b : MS} : evS G (.fort is it b) s = obnd ((ev G it).I s) fun ds s1 => forR (fun d s => (match d with
    | .tup l => (setAll is l s).bind (evS G b)
    | _ => none)) ds s1 := (rfl)
@[simp] theorem s_retV {i : Nat} : evS G (.ret (.var i)) s = (match s.sl[i]? with
    | some (some (o, d)) => some (.rt o d { s with sl := s.sl.set i none })
    | _ => none) := (rfl)
@[simp] theorem s_retN : evS G .retN s = some (.rt false .non s) := (rfl)
@[simp] theorem s_ret_con {c : Const} : evS G (.ret (.con c)) s = obnd ((ev G (.con c)).E s) fun r s1 => some (.rt r.1 r.2 s1) := (rfl)
@[simp] theorem s_ret_glob {k : Nat} : evS G (.ret (.glob k)) s = obnd ((ev G (.glob k)).E s) fun r s1 => some (.rt r.1 r.2 s1) := (rfl)
@[simp] theorem s_ret_bin {op : Operator} {a : ME} {b : ME} : evS G (.ret (.bin op a b)) s = obnd ((ev G (.bin op a b)).E s) fun r s1 => some (.rt r.1 r.2 s1) := (rfl)
@[simp] theorem s_ret_neg {a : ME} : evS G (.ret (.neg a)) s = obnd ((ev G (.neg a)).E s) fun r s1 => some (.rt r.1 r.2 s1) := (rfl)
@[simp] theorem s_ret_cmp {op : CmpOp} {a : ME} {b : ME} : evS G (.ret (.cmp op a b)) s = obnd ((ev G (.cmp op a b)).E s) fun r s1 => some (.rt r.1 r.2 s1) := (rfl)
@[simp] theorem s_ret_chain {op : CmpOp} {op2 : CmpOp} {a : ME} {b : ME} {c : ME} : evS G (.ret (.chain op op2 a b c)) s = obnd ((ev G (.chain op op2 a b c)).E s) fun r s1 => some (.rt r.1 r.2 s1) := (rfl)
@[simp] theorem s_ret_not {a : ME} : evS G (.ret (.not a)) s = obnd ((ev G (.not a)).E s) fun r s1 => some (.rt r.1 r.2 s1) := (rfl)
@[simp] theorem s_ret_and {a : ME} {b : ME} : evS G (.ret (.and a b)) s = obnd ((ev G (.and a b)).E s) fun r s1 => some (.rt r.1 r.2 s1) := (rfl)
@[simp] theorem s_ret_or {a : ME} {b : ME} : evS G (.ret (.or a b)) s = obnd ((ev G (.or a b)).E s) fun r s1 => some (.rt r.1 r.2 s1) := (rfl)
@[simp] theorem s_ret_ite {c : ME} {a : ME} {b : ME} : evS G (.ret (.ite c a b)) s = obnd ((ev G (.ite c a b)).E s) fun r s1 => some (.rt r.1 r.2 s1) := (rfl)
@[simp] theorem s_ret_call {k : Nat} {es : ME} : evS G (.ret (.call k es)) s = obnd ((ev G (.call k es)).E s) fun r s1 => some (.rt r.1 r.2 s1) := (rfl)
@[simp] theorem s_ret_make {k : Nat} {es : ME} : evS G (.ret (.make k es)) s = obnd ((ev G (.make k es)).E s) fun r s1 => some (.rt r.1 r.2 s1) := (rfl)
@[simp] theorem s_ret_meth {m : Nat} {o : ME} {es : ME} : evS G (.ret (.meth m o es)) s = obnd ((ev G (.meth m o es)).E s) fun r s1 => some (.rt r.1 r.2 s1) := (rfl)
@[simp] theorem s_ret_attr {f : Nat} {o : ME} : evS G (.ret (.attr f o)) s = obnd ((ev G (.attr f o)).E s) fun r s1 => some (.rt r.1 r.2 s1) := (rfl)
@[simp] theorem s_ret_idx {a : ME} {i : ME} : evS G (.ret (.idx a i)) s = obnd ((ev G (.idx a i)).E s) fun r s1 => some (.rt r.1 r.2 s1) := (rfl)
@[simp] theorem s_ret_slc {a : ME} {lo : ME} {hi : ME} : evS G (.ret (.slc a lo hi)) s = obnd ((ev G (.slc a lo hi)).E s) fun r s1 => some (.rt r.1 r.2 s1) := (rfl)
@[simp] theorem s_ret_rev {a : ME} : evS G (.ret (.rev a)) s = obnd ((ev G (.rev a)).E s) fun r s1 => some (.rt r.1 r.2 s1) := (rfl)
@[simp] theorem s_ret_lst {es : ME} : evS G (.ret (.lst es)) s = obnd ((ev G (.lst es)).E s) fun r s1 => some (.rt r.1 r.2 s1) := (rfl)
@[simp] theorem s_ret_tup {es : ME} : evS G (.ret (.tup es)) s = obnd ((ev G (.tup es)).E s) fun r s1 => some (.rt r.1 r.2 s1) := (rfl)
@[simp] theorem s_ret_b1 {b : B1} {a : ME} : evS G (.ret (.b1 b a)) s = obnd ((ev G (.b1 b a)).E s) fun r s1 => some (.rt r.1 r.2 s1) := (rfl)
@[simp] theorem s_ret_b2 {b : B2} {a : ME} {c : ME} : evS G (.ret (.b2 b a c)) s = obnd ((ev G (.b2 b a c)).E s) fun r s1 => some (.rt r.1 r.2 s1) := (rfl)
@[simp] theorem s_ret_isi {t : Ty} {a : ME} : evS G (.ret (.isi t a)) s = obnd ((ev G (.isi t a)).E s) fun r s1 => some (.rt r.1 r.2 s1) := (rfl)
@[simp] theorem s_ret_compt {e : ME} {is : List Nat} {it : ME} {c : ME} : evS G (.ret (.compt e is it c)) s = obnd ((ev G (.compt e is it c)).E s) fun r s1 => some (.rt r.1 r.2 s1) := (rfl)
@[simp] theorem s_ret_comp {e : ME} {i : Nat} {it : ME} {c : ME} : evS G (.ret (.comp e i it c)) s = obnd ((ev G (.comp e i it c)).E s) fun r s1 => some (.rt r.1 r.2 s1) := (rfl)
@[simp] theorem o_con {c : Const} {ea : Stt → Option (O (Bool × D))} : opnd (.con c) ea s = bnd (ea s) (fun r s1 => some (.ok (some r.2) s1)) := (rfl)
@[simp] theorem o_glob {k : Nat} {ea : Stt → Option (O (Bool × D))} : opnd (.glob k) ea s = bnd (ea s) (fun r s1 => some (.ok (some r.2) s1)) := (rfl)
@[simp] theorem o_bin {op : Operator} {a : ME} {b : ME} {ea : Stt → Option (O (Bool × D))} : opnd (.bin op a b) ea s = bnd (ea s) (fun r s1 => some (.ok (some r.2) s1)) := (rfl)
@[simp] theorem o_neg {a : ME} {ea : Stt → Option (O (Bool × D))} : opnd (.neg a) ea s = bnd (ea s) (fun r s1 => some (.ok (some r.2) s1)) := (rfl)
@[simp] theorem o_cmp {op : CmpOp} {a : ME} {b : ME} {ea : Stt → Option (O (Bool × D))} : opnd (.cmp op a b) ea s = bnd (ea s) (fun r s1 => some (.ok (some r.2) s1)) := (rfl)
@[simp] theorem o_chain {op : CmpOp} {op2 : CmpOp} {a : ME} {b : ME} {c : ME} {ea : Stt → Option (O (Bool × D))} : opnd (.chain op op2 a b c) ea s = bnd (ea s) (fun r s1 => some (.ok (some r.2) s1)) := (rfl)
@[simp] theorem o_not {a : ME} {ea : Stt → Option (O (Bool × D))} : opnd (.not a) ea s = bnd (ea s) (fun r s1 => some (.ok (some r.2) s1)) := (rfl)
@[simp] theorem o_and {a : ME} {b : ME} {ea : Stt → Option (O (Bool × D))} : opnd (.and a b) ea s = bnd (ea s) (fun r s1 => some (.ok (some r.2) s1)) := (rfl)
@[simp] theorem o_or {a : ME} {b : ME} {ea : Stt → Option (O (Bool × D))} : opnd (.or a b) ea s = bnd (ea s) (fun r s1 => some (.ok (some r.2) s1)) := (rfl)
@[simp] theorem o_ite {c : ME} {a : ME} {b : ME} {ea : Stt → Option (O (Bool × D))} : opnd (.ite c a b) ea s = bnd (ea s) (fun r s1 => some (.ok (some r.2) s1)) := (rfl)
@[simp] theorem o_call {k : Nat} {es : ME} {ea : Stt → Option (O (Bool × D))} : opnd (.call k es) ea s = bnd (ea s) (fun r s1 => some (.ok (some r.2) s1)) := (rfl)
@[simp] theorem o_make {k : Nat} {es : ME} {ea : Stt → Option (O (Bool × D))} : opnd (.make k es) ea s = bnd (ea s) (fun r s1 => some (.ok (some r.2) s1)) := (rfl)
@[simp] theorem o_meth {m : Nat} {o : ME} {es : ME} {ea : Stt → Option (O (Bool × D))} : opnd (.meth m o es) ea s = bnd (ea s) (fun r s1 => some (.ok (some r.2) s1)) := (rfl)
@[simp] theorem o_attr {f : Nat} {o : ME} {ea : Stt → Option (O (Bool × D))} : opnd (.attr f o) ea s = bnd (ea s) (fun r s1 => some (.ok (some r.2) s1)) := (rfl)
@[simp] theorem o_idx {a : ME} {i : ME} {ea : Stt → Option (O (Bool × D))} : opnd (.idx a i) ea s = bnd (ea s) (fun r s1 => some (.ok (some r.2) s1)) := (rfl)
@[simp] theorem o_slc {a : ME} {lo : ME} {hi : ME} {ea : Stt → Option (O (Bool × D))} : opnd (.slc a lo hi) ea s = bnd (ea s) (fun r s1 => some (.ok (some r.2) s1)) := (rfl)
@[simp] theorem o_rev {a : ME} {ea : Stt → Option (O (Bool × D))} : opnd (.rev a) ea s = bnd (ea s) (fun r s1 => some (.ok (some r.2) s1)) := (rfl)
@[simp] theorem o_lst {es : ME} {ea : Stt → Option (O (Bool × D))} : opnd (.lst es) ea s = bnd (ea s) (fun r s1 => some (.ok (some r.2) s1)) := (rfl)
@[simp] theorem o_tup {es : ME} {ea : Stt → Option (O (Bool × D))} : opnd (.tup es) ea s = bnd (ea s) (fun r s1 => some (.ok (some r.2) s1)) := (rfl)
@[simp] theorem o_b1 {b : B1} {a : ME} {ea : Stt → Option (O (Bool × D))} : opnd (.b1 b a) ea s = bnd (ea s) (fun r s1 => some (.ok (some r.2) s1)) := (rfl)
@[simp] theorem o_b2 {b : B2} {a : ME} {c : ME} {ea : Stt → Option (O (Bool × D))} : opnd (.b2 b a c) ea s = bnd (ea s) (fun r s1 => some (.ok (some r.2) s1)) := (rfl)
@[simp] theorem o_isi {t : Ty} {a : ME} {ea : Stt → Option (O (Bool × D))} : opnd (.isi t a) ea s = bnd (ea s) (fun r s1 => some (.ok (some r.2) s1)) := (rfl)
@[simp] theorem o_compt {e : ME} {is : List Nat} {it : ME} {c : ME} {ea : Stt → Option (O (Bool × D))} : opnd (.compt e is it c) ea s = bnd (ea s) (fun r s1 => some (.ok (some r.2) s1)) := (rfl)
@[simp] theorem o_comp {e : ME} {i : Nat} {it : ME} {c : ME} {ea : Stt → Option (O (Bool × D))} : opnd (.comp e i it c) ea s = bnd (ea s) (fun r s1 => some (.ok (some r.2) s1)) := (rfl)
@[simp] theorem i_con {c : Const} : (ev G (.con c)).I s = itrE (ev G (.con c)).E s := (rfl)
@[simp] theorem t_glob {k : Nat} : (ev G (.glob k)).T s = tstE (ev G (.glob k)).E s := (rfl)
@[simp] theorem i_glob {k : Nat} : (ev G (.glob k)).I s = itrE (ev G (.glob k)).E s := (rfl)
@[simp] theorem b_glob {k : Nat} : (ev G (.glob k)).B s = bndE (ev G (.glob k)).E s := (rfl)
@[simp] theorem t_neg {a : ME} : (ev G (.neg a)).T s = tstE (ev G (.neg a)).E s := (rfl)
@[simp] theorem i_neg {a : ME} : (ev G (.neg a)).I s = itrE (ev G (.neg a)).E s := (rfl)
@[simp] theorem i_cmp {op : CmpOp} {a : ME} {b : ME} : (ev G (.cmp op a b)).I s = itrE (ev G (.cmp op a b)).E s := (rfl)
@[simp] theorem b_cmp {op : CmpOp} {a : ME} {b : ME} : (ev G (.cmp op a b)).B s = bndE (ev G (.cmp op a b)).E s := (rfl)
@[simp] theorem i_chain {op : CmpOp} {op2 : CmpOp} {a : ME} {b : ME} {c : ME} : (ev G (.chain op op2 a b c)).I s = itrE (ev G (.chain op op2 a b c)).E s := (rfl)
@[simp] theorem b_chain {op : CmpOp} {op2 : CmpOp} {a : ME} {b : ME} {c : ME} : (ev G (.chain op op2 a b c)).B s = bndE (ev G (.chain op op2 a b c)).E s := (rfl)
@[simp] theorem i_not {a : ME} : (ev G (.not a)).I s = itrE (ev G (.not a)).E s := (rfl)
@[simp] theorem b_not {a : ME} : (ev G (.not a)).B s = bndE (ev G (.not a)).E s := (rfl)
@[simp] theorem i_and {a : ME} {b : ME} : (ev G (.and a b)).I s = itrE (ev G (.and a b)).E s := (rfl)
@[simp] theorem b_and {a : ME} {b : ME} : (ev G (.and a b)).B s = bndE (ev G (.and a b)).E s := (rfl)
@[simp] theorem i_or {a : ME} {b : ME} : (ev G (.or a b)).I s = itrE (ev G (.or a b)).E s := (rfl)
@[simp] theorem b_or {a : ME} {b : ME} : (ev G (.or a b)).B s = bndE (ev G (.or a b)).E s := (rfl)
@[simp] theorem i_ite {c : ME} {a : ME} {b : ME} : (ev G (.ite c a b)).I s = itrE (ev G (.ite c a b)).E s := (rfl)
@[simp] theorem b_ite {c : ME} {a : ME} {b : ME} : (ev G (.ite c a b)).B s = bndE (ev G (.ite c a b)).E s := (rfl)
@[simp] theorem b_call {k : Nat} {es : ME} : (ev G (.call k es)).B s = bndE (ev G (.call k es)).E s := (rfl)
@[simp] theorem t_make {k : Nat} {es : ME} : (ev G (.make k es)).T s = tstE (ev G (.make k es)).E s := (rfl)
@[simp] theorem i_make {k : Nat} {es : ME} : (ev G (.make k es)).I s = itrE (ev G (.make k es)).E s := (rfl)
@[simp] theorem b_make {k : Nat} {es : ME} : (ev G (.make k es)).B s = bndE (ev G (.make k es)).E s := (rfl)
@[simp] theorem i_meth {m : Nat} {o : ME} {es : ME} : (ev G (.meth m o es)).I s = itrE (ev G (.meth m o es)).E s := (rfl)
@[simp] theorem b_meth {m : Nat} {o : ME} {es : ME} : (ev G (.meth m o es)).B s = bndE (ev G (.meth m o es)).E s := (rfl)
@[simp] theorem b_attr {f : Nat} {o : ME} : (ev G (.attr f o)).B s = bndE (ev G (.attr f o)).E s := (rfl)
@[simp] theorem t_idx {a : ME} {i : ME} : (ev G (.idx a i)).T s = tstE (ev G (.idx a i)).E s := (rfl)
@[simp] theorem b_idx {a : ME} {i : ME} : (ev G (.idx a i)).B s = bndE (ev G (.idx a i)).E s := (rfl)
@[simp] theorem t_slc {a : ME} {lo : ME} {hi : ME} : (ev G (.slc a lo hi)).T s = tstE (ev G (.slc a lo hi)).E s := (rfl)
@[simp] theorem b_slc {a : ME} {lo : ME} {hi : ME} : (ev G (.slc a lo hi)).B s = bndE (ev G (.slc a lo hi)).E s := (rfl)
@[simp] theorem t_rev {a : ME} : (ev G (.rev a)).T s = tstE (ev G (.rev a)).E s := (rfl)
@[simp] theorem i_rev {a : ME} : (ev G (.rev a)).I s = itrE (ev G (.rev a)).E s := (rfl)
@[simp] theorem b_rev {a : ME} : (ev G (.rev a)).B s = bndE (ev G (.rev a)).E s := (rfl)
@[simp] theorem t_lst {es : ME} : (ev G (.lst es)).T s = tstE (ev G (.lst es)).E s := (rfl)
@[simp] theorem b_lst {es : ME} : (ev G (.lst es)).B s = bndE (ev G (.lst es)).E s := (rfl)
@[simp] theorem t_tup {es : ME} : (ev G (.tup es)).T s = tstE (ev G (.tup es)).E s := (rfl)
@[simp] theorem b_tup {es : ME} : (ev G (.tup es)).B s = bndE (ev G (.tup es)).E s := (rfl)
@[simp] theorem t_b1 {b : B1} {a : ME} : (ev G (.b1 b a)).T s = tstE (ev G (.b1 b a)).E s := (rfl)
@[simp] theorem i_b1 {b : B1} {a : ME} : (ev G (.b1 b a)).I s = itrE (ev G (.b1 b a)).E s := (rfl)
@[simp] theorem b_b1 {b : B1} {a : ME} : (ev G (.b1 b a)).B s = bndE (ev G (.b1 b a)).E s := (rfl)
@[simp] theorem t_b2 {b : B2} {a : ME} {c : ME} : (ev G (.b2 b a c)).T s = tstE (ev G (.b2 b a c)).E s := (rfl)
@[simp] theorem i_b2 {b : B2} {a : ME} {c : ME} : (ev G (.b2 b a c)).I s = itrE (ev G (.b2 b a c)).E s := (rfl)
@[simp] theorem b_b2 {b : B2} {a : ME} {c : ME} : (ev G (.b2 b a c)).B s = bndE (ev G (.b2 b a c)).E s := (rfl)
@[simp] theorem i_isi {t : Ty} {a : ME} : (ev G (.isi t a)).I s = itrE (ev G (.isi t a)).E s := (rfl)
@[simp] theorem b_isi {t : Ty} {a : ME} : (ev G (.isi t a)).B s = bndE (ev G (.isi t a)).E s := (rfl)
@[simp] theorem t_comp {e : ME} {i : Nat} {it : ME} {c : ME} : (ev G (.comp e i it c)).T s = tstE (ev G (.comp e i it c)).E s := (rfl)
@[simp] theorem i_comp {e : ME} {i : Nat} {it : ME} {c : ME} : (ev G (.comp e i it c)).I s = itrE (ev G (.comp e i it c)).E s := (rfl)
@[simp] theorem b_comp {e : ME} {i : Nat} {it : ME} {c : ME} : (ev G (.comp e i it c)).B s = bndE (ev G (.comp e i it c)).E s := (rfl)
end
/-! #### rows of the words over data -/
variable {sl : List (Option (Bool × D))} {ob : List OE}
@[simp] theorem peek_mk {i : Nat} : peek i ⟨sl, ob⟩ = (match sl[i]? with
  | some (some (_, d)) => some d
  | _ => none) := (rfl)
@[simp] theorem demote_mk {i : Nat} : demote i ⟨sl, ob⟩ = (match sl[i]? with
  | some (some (true, d)) => ⟨sl.set i (some (false, d)), ob⟩
  | _ => ⟨sl, ob⟩) := by
  unfold demote
  split <;> rename_i h <;> simp_all
@[simp] theorem setD_mk {i : Nat} {r : Bool × D} : setD i r ⟨sl, ob⟩ = if i < sl.length then some ⟨sl.set i (some r), ob⟩ else none := (rfl)
@[simp] theorem setAll_nil {s : Stt} : setAll [] [] s = some s := (rfl)
@[simp] theorem setAll_cons {i : Nat} {is : List Nat} {d : D} {ds : List D} : setAll (i :: is) (d :: ds) ⟨sl, ob⟩ = (setD i (false, d) ⟨sl, ob⟩).bind (setAll is ds) := (rfl)
@[simp] theorem appD_mk {i : Nat} {d : D} : appD i d ⟨sl, ob⟩ = (match sl[i]? with
  | some (some (true, .lst l)) => if l.length < 16777216 then some ⟨sl.set i (some (true, .lst (l ++ [d]))), ob⟩ else none
  | _ => none) := (rfl)
@[simp] theorem ownB_mk {i : Nat} : ownB i ⟨sl, ob⟩ = (match sl[i]? with
  | some (some (true, .lst _)) => true
  | _ => false) := (rfl)
@[simp] theorem popD_mk {i : Nat} : popD i ⟨sl, ob⟩ = (match sl[i]? with
  | some (some (true, .lst l)) => (l[l.length - 1]?).map fun d => (d, ⟨sl.set i (some (true, .lst l.dropLast)), ob⟩)
  | _ => none) := (rfl)
@[simp] theorem con_n  : conD .none = some .non := (rfl)
@[simp] theorem con_b {k : Bool} : conD (.bool k) = some (.bl k) := (rfl)
@[simp] theorem con_i {a : Int} : conD (.int a) = some (.int a) := (rfl)
@[simp] theorem con_s {x : Str} : conD (.str x) = some (.str x) := (rfl)
@[simp] theorem bin_add {a b : Int} : binD .Add (.int a) (.int b) = some (false, .int (a + b)) := (rfl)
@[simp] theorem bin_adds {x y : Str} : binD .Add (.str x) (.str y) = if x.length + y.length ≤ 16777216 then some (false, .str (x ++ y)) else none := (rfl)
@[simp] theorem bin_addl {l l2 : List D} : binD .Add (.lst l) (.lst l2) = if l.length + l2.length ≤ 16777216 then some (true, .lst (l ++ l2)) else none := (rfl)
@[simp] theorem bin_sub {a b : Int} : binD .Sub (.int a) (.int b) = some (false, .int (a - b)) := (rfl)
@[simp] theorem bin_mul {a b : Int} : binD .Mult (.int a) (.int b) = if IntMulOk a b then some (false, .int (a * b)) else none := (rfl)
@[simp] theorem bin_mull {l : List D} {b : Int} : binD .Mult (.lst l) (.int b) = if -(2 ^ 63) ≤ b ∧ b < 2 ^ 63 ∧ l.length * b.toNat ≤ 16777216 then some (true, .lst (List.replicate b.toNat l).flatten) else none := (rfl)
@[simp] theorem bin_fdv {a b : Int} : binD .FloorDiv (.int a) (.int b) = if b ≠ 0 ∧ Builtin.divisionGoesByPylong a b = false then some (false, .int (a.fdiv b)) else none := (rfl)
@[simp] theorem bin_mod {a b : Int} : binD .Mod (.int a) (.int b) = if b ≠ 0 then some (false, .int (a.fmod b)) else none := (rfl)
@[simp] theorem bin_pow {a b : Int} : binD .Pow (.int a) (.int b) = if 0 ≤ b ∧ b ≤ 1000000 ∧ a.natAbs < 2 ^ 64 then some (false, .int (a ^ b.toNat)) else none := (rfl)
@[simp] theorem cmp_lt {a b : Int} : cmpD .Lt (.int a) (.int b) = some (decide (a < b)) := (rfl)
@[simp] theorem cmp_le {a b : Int} : cmpD .LtE (.int a) (.int b) = some (decide (a ≤ b)) := (rfl)
@[simp] theorem cmp_gt {a b : Int} : cmpD .Gt (.int a) (.int b) = some (decide (b < a)) := (rfl)
@[simp] theorem cmp_ge {a b : Int} : cmpD .GtE (.int a) (.int b) = some (decide (b ≤ a)) := (rfl)
@[simp] theorem cmp_eq {d e : D} : cmpD .Eq d e = eqD d e := by cases d <;> cases e <;> rfl
@[simp] theorem cmp_ne {d e : D} : cmpD .NotEq d e = (eqD d e).map (!·) := by cases d <;> cases e <;> rfl
@[simp] theorem cmp_isb {k j : Bool} : cmpD .Is (.bl k) (.bl j) = some (decide (k = j)) := (rfl)
@[simp] theorem cmp_isnb {k j : Bool} : cmpD .IsNot (.bl k) (.bl j) = some (!decide (k = j)) := (rfl)
@[simp] theorem cmp_isn {d : D} : cmpD .Is d .non = some (isNonD d) := by cases d <;> rfl
@[simp] theorem cmp_isnn {d : D} : cmpD .IsNot d .non = some (!isNonD d) := by cases d <;> rfl
@[simp] theorem cmp_inl {d : D} {l : List D} : cmpD .In d (.lst l) = inL d l := by cases d <;> rfl
@[simp] theorem cmp_int {d : D} {l : List D} : cmpD .In d (.tup l) = inD d l := by cases d <;> rfl
@[simp] theorem cmp_ninl {d : D} {l : List D} : cmpD .NotIn d (.lst l) = (inL d l).map (!·) := by cases d <;> rfl
@[simp] theorem cmp_nint {d : D} {l : List D} : cmpD .NotIn d (.tup l) = (inD d l).map (!·) := by cases d <;> rfl
@[simp] theorem eq_ii {a b : Int} : eqD (.int a) (.int b) = some (decide (a = b)) := (rfl)
@[simp] theorem eq_bb {k j : Bool} : eqD (.bl k) (.bl j) = some (decide (k = j)) := (rfl)
@[simp] theorem eq_ss {x y : Str} : eqD (.str x) (.str y) = some (decide (x = y)) := (rfl)
@[simp] theorem eq_nn  : eqD .non .non = some true := (rfl)
@[simp] theorem eq_ni {a : Int} : eqD .non (.int a) = some false := (rfl)
@[simp] theorem eq_in {a : Int} : eqD (.int a) .non = some false := (rfl)
@[simp] theorem eq_nb {k : Bool} : eqD .non (.bl k) = some false := (rfl)
@[simp] theorem eq_bn {k : Bool} : eqD (.bl k) .non = some false := (rfl)
@[simp] theorem eq_ns {x : Str} : eqD .non (.str x) = some false := (rfl)
@[simp] theorem eq_sn {x : Str} : eqD (.str x) .non = some false := (rfl)
@[simp] theorem eq_is {a : Int} {x : Str} : eqD (.int a) (.str x) = some false := (rfl)
@[simp] theorem eq_si {a : Int} {x : Str} : eqD (.str x) (.int a) = some false := (rfl)
@[simp] theorem tru_n  : truD .non = some false := (rfl)
@[simp] theorem tru_b {k : Bool} : truD (.bl k) = some k := (rfl)
@[simp] theorem tru_i {a : Int} : truD (.int a) = some (a != 0) := (rfl)
@[simp] theorem tru_s {x : Str} : truD (.str x) = if x.length ≤ 16777216 then some ((x.length : Int) != 0) else none := (rfl)
@[simp] theorem tru_lst {l : List D} : truD (.lst l) = some (!l.isEmpty) := (rfl)
@[simp] theorem tru_flst {l : List D} : truD (.flst l) = some (!l.isEmpty) := (rfl)
@[simp] theorem tru_tup {l : List D} : truD (.tup l) = some (!l.isEmpty) := (rfl)
@[simp] theorem idx_lst {l : List D} {a : Int} : idxD (.lst l) (.int a) = atI l a := (rfl)
@[simp] theorem idx_flst {l : List D} {a : Int} : idxD (.flst l) (.int a) = atI l a := (rfl)
@[simp] theorem idx_tup {l : List D} {a : Int} : idxD (.tup l) (.int a) = atI l a := (rfl)
@[simp] theorem slc_l {l : List D} {lo hi : Option Int} : slcD (.lst l) lo hi = some (true, .lst (cut l lo hi)) := (rfl)
@[simp] theorem slc_f {l : List D} {lo hi : Option Int} : slcD (.flst l) lo hi = some (true, .lst (cut l lo hi)) := (rfl)
@[simp] theorem slc_t {l : List D} {lo hi : Option Int} : slcD (.tup l) lo hi = if HT.sIx l.length 0 lo = 0 ∧ HT.sIx l.length l.length hi = l.length then none else some (false, .tup (cut l lo hi)) := (rfl)
@[simp] theorem rev_l {l : List D} : revD (.lst l) = some (true, .lst l.reverse) := (rfl)
@[simp] theorem len_s {x : Str} : lenD (.str x) = if x.length ≤ 16777216 then some (x.length : Int) else none := (rfl)
@[simp] theorem len_lst {l : List D} : lenD (.lst l) = some (l.length : Int) := (rfl)
@[simp] theorem len_flst {l : List D} : lenD (.flst l) = some (l.length : Int) := (rfl)
@[simp] theorem len_tup {l : List D} : lenD (.tup l) = some (l.length : Int) := (rfl)
@[simp] theorem b1_len {d : D} : b1D .len d = (lenD d).map fun n => (false, .int n) := by cases d <;> rfl
@[simp] theorem b1_abs {a : Int} : b1D .abs (.int a) = some (false, .int (if a < 0 then -a else a)) := (rfl)
@[simp] theorem b1_ii {a : Int} : b1D .int (.int a) = some (false, .int a) := (rfl)
@[simp] theorem b1_ib {k : Bool} : b1D .int (.bl k) = some (false, .int (if k then 1 else 0)) := (rfl)
@[simp] theorem b1_str {a : Int} : b1D .str (.int a) = if a.natAbs.log2 < 1920 then some (false, .str (toString a)) else none := (rfl)
@[simp] theorem b1_list_lst {l : List D} : b1D .list (.lst l) = some (true, .lst l) := (rfl)
@[simp] theorem b1_list_flst {l : List D} : b1D .list (.flst l) = some (true, .lst l) := (rfl)
@[simp] theorem b1_list_tup {l : List D} : b1D .list (.tup l) = some (true, .lst l) := (rfl)
@[simp] theorem b1_sum {l : List D} : b1D .sum (.lst l) = (intsD l).map fun ns => (false, .int ns.sum) := (rfl)
@[simp] theorem b1_all {l : List D} : b1D .all (.lst l) = (blsD l).map fun bs => (false, .bl (bs.all id)) := (rfl)
@[simp] theorem b1_any {l : List D} : b1D .any (.lst l) = (blsD l).map fun bs => (false, .bl (bs.any id)) := (rfl)
@[simp] theorem b2_max {a b : Int} : b2D .max (.int a) (.int b) = some (.int (if b > a then b else a)) := (rfl)
@[simp] theorem b2_min {a b : Int} : b2D .min (.int a) (.int b) = some (.int (if b < a then b else a)) := (rfl)
@[simp] theorem isi_bool_non  : isiD .bool (.non) = some false := (rfl)
@[simp] theorem isi_bool_bl {k : Bool} : isiD .bool (.bl k) = some true := (rfl)
@[simp] theorem isi_bool_int {a : Int} : isiD .bool (.int a) = some false := (rfl)
@[simp] theorem isi_bool_str {x : Str} : isiD .bool (.str x) = some false := (rfl)
@[simp] theorem isi_bool_lst {l : List D} : isiD .bool (.lst l) = some false := (rfl)
@[simp] theorem isi_bool_flst {l : List D} : isiD .bool (.flst l) = some false := (rfl)
@[simp] theorem isi_bool_tup {l : List D} : isiD .bool (.tup l) = some false := (rfl)
@[simp] theorem isi_int_non  : isiD .int (.non) = some false := (rfl)
@[simp] theorem isi_int_bl {k : Bool} : isiD .int (.bl k) = some true := (rfl)
@[simp] theorem isi_int_int {a : Int} : isiD .int (.int a) = some true := (rfl)
@[simp] theorem isi_int_str {x : Str} : isiD .int (.str x) = some false := (rfl)
@[simp] theorem isi_int_lst {l : List D} : isiD .int (.lst l) = some false := (rfl)
@[simp] theorem isi_int_flst {l : List D} : isiD .int (.flst l) = some false := (rfl)
@[simp] theorem isi_int_tup {l : List D} : isiD .int (.tup l) = some false := (rfl)
@[simp] theorem isi_str_non  : isiD .str (.non) = some false := (rfl)
@[simp] theorem isi_str_bl {k : Bool} : isiD .str (.bl k) = some false := (rfl)
@[simp] theorem isi_str_int {a : Int} : isiD .str (.int a) = some false := (rfl)
@[simp] theorem isi_str_str {x : Str} : isiD .str (.str x) = some true := (rfl)
@[simp] theorem isi_str_lst {l : List D} : isiD .str (.lst l) = some false := (rfl)
@[simp] theorem isi_str_flst {l : List D} : isiD .str (.flst l) = some false := (rfl)
@[simp] theorem isi_str_tup {l : List D} : isiD .str (.tup l) = some false := (rfl)
@[simp] theorem isi_list_non  : isiD .list (.non) = some false := (rfl)
@[simp] theorem isi_list_bl {k : Bool} : isiD .list (.bl k) = some false := (rfl)
@[simp] theorem isi_list_int {a : Int} : isiD .list (.int a) = some false := (rfl)
@[simp] theorem isi_list_str {x : Str} : isiD .list (.str x) = some false := (rfl)
@[simp] theorem isi_list_lst {l : List D} : isiD .list (.lst l) = some true := (rfl)
@[simp] theorem isi_list_flst {l : List D} : isiD .list (.flst l) = some true := (rfl)
@[simp] theorem isi_list_tup {l : List D} : isiD .list (.tup l) = some false := (rfl)
@[simp] theorem isi_tuple_non  : isiD .tuple (.non) = some false := (rfl)
@[simp] theorem isi_tuple_bl {k : Bool} : isiD .tuple (.bl k) = some false := (rfl)
@[simp] theorem isi_tuple_int {a : Int} : isiD .tuple (.int a) = some false := (rfl)
@[simp] theorem isi_tuple_str {x : Str} : isiD .tuple (.str x) = some false := (rfl)
@[simp] theorem isi_tuple_lst {l : List D} : isiD .tuple (.lst l) = some false := (rfl)
@[simp] theorem isi_tuple_flst {l : List D} : isiD .tuple (.flst l) = some false := (rfl)
@[simp] theorem isi_tuple_tup {l : List D} : isiD .tuple (.tup l) = some true := (rfl)
@[simp] theorem att_ins {att : Nat → Nat → Bool} {f c : Nat} {fs : List Nat} {l : List D} {s : Stt} : attrD att f (.ins c fs l) s = if att c f = true then (fs.zip l).lookup f else none := (rfl)
@[simp] theorem att_obj {att : Nat → Nat → Bool} {f n : Nat} {s : Stt} : attrD att f (.obj n) s = (match s.ob[n]? with
  | some (.ins c fs l) => if att c f = true then (fs.zip l).lookup f else none
  | _ => none) := (rfl)
@[simp] theorem cls_ins {m c : Nat} {fs : List Nat} {l : List D} {s : Stt} : clsD m (.ins c fs l) s = if fs.contains m = true then none else some c := (rfl)
@[simp] theorem cls_obj {m n : Nat} {s : Stt} : clsD m (.obj n) s = (match s.ob[n]? with
  | some (.ins c fs _) => if fs.contains m = true then none else some c
  | _ => none) := (rfl)
@[simp] theorem neg_i {a : Int} : negD (.int a) = some (.int (-a)) := (rfl)
theorem rng1_i {a : Int} : rng1D (.int a) = if okR a = true then some (intl (rngI 0 a)) else none := (rfl)
theorem rng2_i {a b : Int} : rng2D (.int a) (.int b) = if okR a = true ∧ okR b = true then some (intl (rngI a b)) else none := (rfl)
@[simp] theorem rvs_l {l : List D} : rvsD (.lst l) = some l.reverse := (rfl)
@[simp] theorem enm_l {l : List D} : enmD (.lst l) = some (enumD l) := (rfl)
@[simp] theorem rvs_f {l : List D} : rvsD (.flst l) = some l.reverse := (rfl)
@[simp] theorem enm_f {l : List D} : enmD (.flst l) = some (enumD l) := (rfl)
@[simp] theorem itr_l {l : List D} : itrD (.lst l) = some l := (rfl)
@[simp] theorem itr_f {l : List D} : itrD (.flst l) = some l := (rfl)
@[simp] theorem itr_t {l : List D} : itrD (.tup l) = some l := (rfl)
@[simp] theorem bndE_eq {e : Stt → Option (O (Bool × D))} {s : Stt} : bndE e s = bnd (e s) fun x s1 => (match x.2 with
  | .int i => some (.ok (some i) s1)
  | _ => none) := (rfl)
@[simp] theorem lk_cons {a k : Nat} {v : α} {l : List (Nat × α)} : List.lookup a ((k, v) :: l) = if a = k then some v else List.lookup a l := by
  rw [List.lookup_cons]
  by_cases h : a = k
  · subst h
    simp
  · rw [if_neg h]
    have : (a == k) = false := by simpa using h
    rw [this]
@[simp] theorem lk_nil {α : Type} {a : Nat} : List.lookup a ([] : List (Nat × α)) = none := (rfl)
theorem seq_nx {G : Tab} {a b : MS} {s s1 : Stt} {o : Out} (h1 : evS G a s = some (.nx s1)) (h2 : evS G b s1 = some o) : evS G (.seq a b) s = some o := by
  rw [s_seq, h1]
  exact h2
theorem seq_rt {G : Tab} {a b : MS} {s s1 : Stt} {w : Bool} {d : D} (h1 : evS G a s = some (.rt w d s1)) : evS G (.seq a b) s = some (.rt w d s1) := by
  rw [s_seq, h1]
  rfl
section
variable {α : Type} {a b c d e : α} {l : List α}
@[simp] theorem at_0 : atI (a :: l) 0 = some a := by
  unfold atI ixN
  rw [if_pos (by omega), if_pos (by rw [List.length_cons]; omega)]
  rfl
@[simp] theorem at_1 : atI (a :: b :: l) 1 = some b := by
  unfold atI ixN
  rw [if_pos (by omega), if_pos (by rw [List.length_cons, List.length_cons]; omega)]
  rfl
@[simp] theorem at_2 : atI (a :: b :: c :: l) 2 = some c := by
  unfold atI ixN
  rw [if_pos (by omega), if_pos (by rw [List.length_cons, List.length_cons, List.length_cons]; omega)]
  rfl
@[simp] theorem at_3 : atI (a :: b :: c :: d :: l) 3 = some d := by
  unfold atI ixN
  rw [if_pos (by omega), if_pos (by rw [List.length_cons, List.length_cons, List.length_cons, List.length_cons]; omega)]
  rfl
@[simp] theorem at_4 : atI (a :: b :: c :: d :: e :: l) 4 = some e := by
  unfold atI ixN
  rw [if_pos (by omega), if_pos (by rw [List.length_cons, List.length_cons, List.length_cons, List.length_cons, List.length_cons]; omega)]
  rfl
end
/-! ### rows of ints, compared -/
theorem toPy_ints : ∀ p : List Int, toPyL (intl p) = some (p.map .int)
  | [] => rfl
  | x :: r => by
    show (toPy (.int x)).bind (fun y => (toPyL (intl r)).map (y :: ·)) = _
    rw [toPy_ints r]
    rfl
theorem lay_ints : ∀ p : List Int, PyData.canLayAll0 (p.map .int) = true
  | [] => rfl
  | x :: r => by
    show (true && PyData.canLayAll0 (r.map .int)) = true
    rw [lay_ints r]
    rfl
theorem depth_ints : ∀ p : List Int, PyData.depthAll (p.map .int) = 0
  | [] => rfl
  | x :: r => by
    show max 0 (PyData.depthAll (r.map .int)) = 0
    rw [depth_ints r]
    rfl
theorem eqv_ints : ∀ p q : List Int, PyData.eqvAll (p.map .int) (q.map .int) = decide (p = q)
  | [], [] => rfl
  | [], _ :: _ => rfl
  | _ :: _, [] => rfl
  | x :: r, y :: s => by
    show ((x == y) && PyData.eqvAll (r.map .int) (s.map .int)) = _
    rw [eqv_ints r s]
    by_cases h : x = y
    · subst h
      simp
    · have : (x == y) = false := by simpa using h
      simp [this, h]
theorem shaped_l (p : List Int) : SeqAt.shaped (.list (p.map .int)) = true := by
  show (PyData.canLayAll0 (p.map .int) && decide (PyData.depthAll (p.map .int) + 1 ≤ 64)) = true
  rw [lay_ints, depth_ints]
  rfl
theorem shaped_t (p : List Int) : SeqAt.shaped (.tuple (p.map .int)) = true := by
  show (PyData.canLayAll0 (p.map .int) && decide (PyData.depthAll (p.map .int) + 1 ≤ 64)) = true
  rw [lay_ints, depth_ints]
  rfl
@[simp] theorem eq_pl (p q : List Int) : eqD (.lst (intl p)) (.lst (intl q)) = some (decide (p = q)) := by
  show ((toPyL (intl p)).map PyData.list).bind (fun a => ((toPyL (intl q)).map PyData.list).bind fun b => if SeqAt.shaped a = true ∧ SeqAt.shaped b = true then some (PyData.eqv a b) else none) = _
  rw [toPy_ints, toPy_ints]
  show (if SeqAt.shaped (.list (p.map .int)) = true ∧ SeqAt.shaped (.list (q.map .int)) = true then some (PyData.eqvAll (p.map .int) (q.map .int)) else none) = _
  rw [if_pos ⟨shaped_l p, shaped_l q⟩, eqv_ints]
@[simp] theorem eq_pl0 (p : List Int) : eqD (.lst (intl p)) (.lst []) = some (decide (p = [])) := eq_pl p []
theorem eq_tp (p q : List Int) : eqD (.tup (intl p)) (.tup (intl q)) = some (decide (p = q)) := by
  show ((toPyL (intl p)).map PyData.tuple).bind (fun a => ((toPyL (intl q)).map PyData.tuple).bind fun b => if SeqAt.shaped a = true ∧ SeqAt.shaped b = true then some (PyData.eqv a b) else none) = _
  rw [toPy_ints, toPy_ints]
  show (if SeqAt.shaped (.tuple (p.map .int)) = true ∧ SeqAt.shaped (.tuple (q.map .int)) = true then some (PyData.eqvAll (p.map .int) (q.map .int)) else none) = _
  rw [if_pos ⟨shaped_t p, shaped_t q⟩, eqv_ints]
theorem toPyL_pls : ∀ L : List (List Int), toPyL (L.map fun q => .lst (intl q)) = some (L.map fun q => .list (q.map .int))
  | [] => rfl
  | p :: L => by
    show (toPy (.lst (intl p))).bind (fun x => (toPyL (L.map fun q => .lst (intl q))).map (x :: ·)) = _
    rw [toPyL_pls L]
    show ((toPyL (intl p)).map PyData.list).bind _ = _
    rw [toPy_ints]
    rfl
theorem lay_pls : ∀ L : List (List Int), PyData.canLayAll0 (L.map fun q => PyData.list (q.map .int)) = true
  | [] => rfl
  | p :: L => by
    show (PyData.canLayAll0 (p.map .int) && PyData.canLayAll0 (L.map fun q => PyData.list (q.map .int))) = true
    rw [lay_pls L, lay_ints]
    rfl
theorem depth_pls : ∀ L : List (List Int), PyData.depthAll (L.map fun q => PyData.list (q.map .int)) ≤ 1
  | [] => Nat.zero_le _
  | p :: L => by
    show max (PyData.depthAll (p.map .int) + 1) (PyData.depthAll (L.map fun q => PyData.list (q.map .int))) ≤ 1
    have := depth_pls L
    rw [depth_ints]
    omega
/-- a row of ints in a list of such rows -/
theorem inL_pls (p : List Int) (L : List (List Int)) : inL (.lst (intl p)) (L.map fun q => .lst (intl q)) = some (decide (p ∈ L)) := by
  have h0 : inD (.lst (intl p)) (L.map fun q => .lst (intl q)) = none := by
    unfold inD
    rw [if_neg (fun z => by have := z.1; cases this)]
  unfold inL
  rw [h0]
  show (toPy (.lst (intl p))).bind (fun d => (toPyL (L.map fun q => .lst (intl q))).bind fun ds => if SeqAt.shaped d = true ∧ SeqAt.shaped (.list ds) = true then some (ds.any fun z => PyData.eqv z d) else none) = _
  rw [toPyL_pls]
  show ((toPyL (intl p)).map PyData.list).bind _ = _
  rw [toPy_ints]
  have hs : SeqAt.shaped (.list (L.map fun q => PyData.list (q.map .int))) = true := by
    show (PyData.canLayAll0 (L.map fun q => PyData.list (q.map .int)) && decide (PyData.depthAll (L.map fun q => PyData.list (q.map .int)) + 1 ≤ 64)) = true
    have := depth_pls L
    rw [lay_pls, decide_eq_true (by omega)]
    rfl
  show (if SeqAt.shaped (.list (p.map .int)) = true ∧ SeqAt.shaped (.list (L.map fun q => PyData.list (q.map .int))) = true then some ((L.map fun q => PyData.list (q.map .int)).any fun z => PyData.eqv z (.list (p.map .int))) else none) = _
  rw [if_pos ⟨shaped_l p, hs⟩]
  congr 1
  rw [List.any_map]
  have : ∀ q : List Int, PyData.eqv (.list (q.map .int)) (.list (p.map .int)) = decide (q = p) := fun q => eqv_ints q p
  rw [show ((fun z => PyData.eqv z (.list (p.map .int))) ∘ fun q : List Int => PyData.list (q.map .int)) = fun q => decide (q = p) from funext fun q => this q]
  rw [Bool.eq_iff_iff, List.any_eq_true]
  simp
/-! ### loops -/
theorem thenO_mono {x : Option Out} {f g : Stt → Option Out} {o : Out} (h : thenO x f = some o) (i : ∀ s, f s = some o → g s = some o) : thenO x g = some o := by
  unfold thenO at h ⊢
  split at h
  · rename_i s
    exact i s h
  · exact h
theorem whlN_up {c : Stt → Option (O Bool)} {b : Stt → Option Out} : ∀ {n : Nat} {s : Stt} {o : Out}, whlN c b n s = some o → whlN c b (n + 1) s = some o
  | 0, _, _, h => nomatch h
  | n + 1, s, o, h => by
    have h : obnd (c s) (fun t s1 => if t = true then thenO (b s1) (whlN c b n) else some (.nx s1)) = some o := h
    show obnd (c s) (fun t s1 => if t = true then thenO (b s1) (whlN c b (n + 1)) else some (.nx s1)) = some o
    cases q : c s with
    | none => rw [q] at h; exact h
    | some x =>
      rw [q] at h
      cases x with
      | exc c fs l s => exact h
      | ok t s1 =>
        cases t with
        | false => exact h
        | true => exact thenO_mono (x := b s1) h fun s hs => whlN_up hs
theorem whlN_le {c : Stt → Option (O Bool)} {b : Stt → Option Out} {n m : Nat} {s : Stt} {o : Out} (h : whlN c b n s = some o) (l : n ≤ m) : whlN c b m s = some o := by
  induction l with
  | refl => exact h
  | step _ ih => exact whlN_up ih
theorem whl_of {c : Stt → Option (O Bool)} {b : Stt → Option Out} {n : Nat} {s : Stt} {o : Out} (h : whlN c b n s = some o) : whl c b s = some o := by
  have e : ∃ n, (whlN c b n s).isSome = true := ⟨n, by rw [h]; rfl⟩
  unfold whl
  rw [dif_pos e]
  cases q : whlN c b e.choose s with
  | none =>
    have := e.choose_spec
    rw [q] at this
    cases this
  | some o' =>
    have h1 := whlN_le h (Nat.le_max_left n e.choose)
    have h2 := whlN_le q (Nat.le_max_right n e.choose)
    rw [h1] at h2
    exact h2.symm
theorem whl_end {c : Stt → Option (O Bool)} {b : Stt → Option Out} {s s1 : Stt} (h : c s = some (.ok false s1)) : whl c b s = some (.nx s1) := whl_of (n := 1) (by
  show obnd (c s) _ = _
  rw [h]
  rfl)
theorem whl_turn {c : Stt → Option (O Bool)} {b : Stt → Option Out} {s s1 s2 : Stt} {o : Out} (h : c s = some (.ok true s1)) (h2 : b s1 = some (.nx s2)) (h3 : whl c b s2 = some o) : whl c b s = some o := by
  obtain ⟨n, hn⟩ := whl_n h3
  refine whl_of (n := n + 1) ?_
  show obnd (c s) _ = _
  rw [h]
  show thenO (b s1) _ = _
  rw [h2]
  exact hn
@[simp] theorem forR_nil {f : D → Stt → Option Out} {s : Stt} : forR f [] s = some (.nx s) := rfl
@[simp] theorem forR_cons {f : D → Stt → Option Out} {d : D} {ds : List D} {s : Stt} : forR f (d :: ds) s = thenO (f d s) (forR f ds) := rfl
/-- each turn ends with the next state -/
theorem forR_fold {α : Type} {f : D → Stt → Option Out} (e : α → Stt) (g : α → D → α) : ∀ {ds : List D} {x : α}, (∀ x d, d ∈ ds → f d (e x) = some (.nx (e (g x d)))) → forR f ds (e x) = some (.nx (e (ds.foldl g x)))
  | [], _, _ => rfl
  | d :: ds, x, h => by
    rw [forR_cons, h x d (List.mem_cons_self ..), thenO_nx, List.foldl_cons]
    exact forR_fold e g fun x d hd => h x d (List.mem_cons_of_mem _ hd)
theorem forR_app {f : D → Stt → Option Out} : ∀ {l l' : List D} {s : Stt}, forR f (l ++ l') s = thenO (forR f l s) (forR f l')
  | [], _, _ => rfl
  | d :: ds, l', s => by
    show thenO (f d s) (forR f (ds ++ l')) = thenO (thenO (f d s) (forR f ds)) (forR f l')
    cases f d s with
    | none => rfl
    | some x =>
      cases x with
      | nx s1 => exact forR_app
      | _ => rfl
/-- [g(x) for x in ints] -/
theorem compR_int {i : Nat} {ee : Stt → Option (O (Bool × D))} {s : Stt} (g : Int → D) (hs : s.sl[i]? = some none) : ∀ {p : List Int} {acc : List D}, (∀ x ∈ p, ∃ o, ee ⟨s.sl.set i (some (false, .int x)), s.ob⟩ = some (.ok (o, g x) ⟨s.sl.set i (some (false, .int x)), s.ob⟩)) → acc.length + p.length ≤ 16777216 →
    compR i ee none (intl p) acc s = some (.ok (acc ++ p.map g) s)
  | [], acc, _, _ => by simp [intl, compR]
  | x :: r, acc, h, hl => by
    obtain ⟨o, e⟩ := h x (List.mem_cons_self ..)
    have e0 : (s.sl.set i (some (false, D.int x))).set i none = s.sl := by
      rw [List.set_set]
      refine List.ext_getElem? fun j => ?_
      rw [List.getElem?_set]
      split
      · rename_i z
        subst z
        split
        · exact hs.symm
        · rename_i hl
          exact absurd (List.getElem?_eq_some_iff.mp hs).1 hl
      · rfl
    have e2 : intl (x :: r) = .int x :: intl r := rfl
    rw [e2]
    unfold compR
    simp only [bnd_ok, if_true, e]
    rw [if_pos (by simp at hl; omega), e0, compR_int g hs (fun y hy => h y (List.mem_cons_of_mem _ hy)) (by simp at hl ⊢; omega)]
    simp
theorem rng0_succ (n : Nat) : rngI 0 ((n : Int) + 1) = rngI 0 n ++ [(n : Int)] := by
  unfold rngI
  rw [show ((n : Int) + 1 - 0).toNat = n + 1 by omega, show ((n : Int) - 0).toNat = n by omega, List.range_succ]
  simp
theorem okR_nat {n : Nat} (h : n < 4000000000000000000) : okR (n : Int) = true := by
  unfold okR
  rw [Bool.and_eq_true]
  refine ⟨decide_eq_true ?_, decide_eq_true ?_⟩
  · omega
  · omega
theorem rng1_nat {n : Nat} (h : n < 4000000000000000000) : rng1D (.int (n : Int)) = some (intl (rngI 0 n)) := by
  rw [rng1_i, if_pos (okR_nat h)]
theorem rng0_zero : rngI 0 0 = [] := rfl
theorem rng0_len (n : Nat) : (rngI 0 (n : Int)).length = n := by
  simp [rngI]
theorem intl_app (p q : List Int) : intl (p ++ q) = intl p ++ intl q := by simp [intl]
theorem intl_rev (p : List Int) : (intl p).reverse = intl p.reverse := by simp [intl]
@[simp] theorem def_eq {G : Tab} {n : Nat} {b : MS} {ds : List D} {ob : List OE} : defSem G n b ds ob = (match evS G b ⟨ds.map (fun d => some (false, d)) ++ List.replicate (n - ds.length) none, ob⟩ with
  | none => none
  | some (.nx s) => some (.ret false .non s.ob)
  | some (.rt own d s) => some (.ret own d s.ob)
  | some (.exc c fs l s) => some (.exc c fs l s.ob)) := rfl
theorem def_rt {G : Tab} {n : Nat} {b : MS} {ds : List D} {ob : List OE} {w : Bool} {d : D} {s : Stt} (h : evS G b ⟨ds.map (fun d => some (false, d)) ++ List.replicate (n - ds.length) none, ob⟩ = some (.rt w d s)) (hs : s.ob = ob) : defSem G n b ds ob = some (.ret w d ob) := by
  rw [def_eq, h]
  show some (FR.ret w d s.ob) = _
  rw [hs]
theorem sem_eq {c : Code} {F : FSem} {ds : List D} {ob : List OE} (h : ds.length = c.ps.length) : c.sem F ds ob = F ds ob := by
  unfold Code.sem
  have e : c.dfl.drop (ds.length + c.dfl.length - c.ps.length) = [] := by
    rw [h, Nat.add_sub_cancel_left]
    exact List.drop_length
  rw [e, List.append_nil, if_pos h]
end Ev
set_option Elab.async false
set_option linter.all false
/-! Rl: the real numbers, by sequences of rationals: an ordered field in which every cut is filled. -/
namespace Rl
theorem prod_lt {x y B e : Rat} (h1 : -B < x) (h2 : x < B) (h3 : -e < y) (h4 : y < e) : x * y < B * e := by
  have a := Rat.mul_pos (show (0 : Rat) < B - x by grind) (show (0 : Rat) < e + y by grind)
  have b := Rat.mul_pos (show (0 : Rat) < B + x by grind) (show (0 : Rat) < e - y by grind)
  grind
theorem prod_gt {x y B e : Rat} (h1 : -B < x) (h2 : x < B) (h3 : -e < y) (h4 : y < e) : -(B * e) < x * y := by
  have a := Rat.mul_pos (show (0 : Rat) < B - x by grind) (show (0 : Rat) < e - y by grind)
  have b := Rat.mul_pos (show (0 : Rat) < B + x by grind) (show (0 : Rat) < e + y by grind)
  grind
theorem div_pos {a b : Rat} (h1 : 0 < a) (h2 : 0 < b) : 0 < a / b := by
  rw [Rat.div_def]
  exact Rat.mul_pos h1 (Rat.inv_pos.mpr h2)
theorem mul_div_c {a b : Rat} (h : b ≠ 0) : b * (a / b) = a := by grind
structure Cs where
  f : Nat → Rat
  c : ∀ e : Rat, 0 < e → ∃ n, ∀ i j, n ≤ i → n ≤ j → f i - f j < e
theorem Cs.bd (s : Cs) : ∃ B n, 0 < B ∧ ∀ i, n ≤ i → -B < s.f i ∧ s.f i < B := by
  obtain ⟨n, h⟩ := s.c 1 (by grind)
  by_cases z : 0 ≤ s.f n
  · refine ⟨s.f n + 2, n, by grind, fun i hi => ?_⟩
    have a := h i n hi (Nat.le_refl _)
    have b := h n i (Nat.le_refl _) hi
    grind
  · refine ⟨-s.f n + 2, n, by grind, fun i hi => ?_⟩
    have a := h i n hi (Nat.le_refl _)
    have b := h n i (Nat.le_refl _) hi
    grind
def Eqv (s t : Cs) : Prop := ∀ e : Rat, 0 < e → ∃ n, ∀ i, n ≤ i → -e < s.f i - t.f i ∧ s.f i - t.f i < e
theorem Eqv.refl (s : Cs) : Eqv s s := fun e he => ⟨0, fun i _ => by grind⟩
theorem Eqv.symm {s t : Cs} (h : Eqv s t) : Eqv t s := fun e he => by
  obtain ⟨n, h⟩ := h e he
  exact ⟨n, fun i hi => by have := h i hi; grind⟩
theorem Eqv.trans {s t u : Cs} (h : Eqv s t) (k : Eqv t u) : Eqv s u := fun e he => by
  obtain ⟨n, h⟩ := h (e / 2) (div_pos he (by grind))
  obtain ⟨m, k⟩ := k (e / 2) (div_pos he (by grind))
  refine ⟨max n m, fun i hi => ?_⟩
  have a := h i (by omega)
  have b := k i (by omega)
  grind
instance st : Setoid Cs := ⟨Eqv, Eqv.refl, Eqv.symm, Eqv.trans⟩
def cadd (s t : Cs) : Cs := ⟨fun i => s.f i + t.f i, fun e he => by
  obtain ⟨n, h⟩ := s.c (e / 2) (div_pos he (by grind))
  obtain ⟨m, k⟩ := t.c (e / 2) (div_pos he (by grind))
  refine ⟨max n m, fun i j hi hj => ?_⟩
  have a := h i j (by omega) (by omega)
  have b := k i j (by omega) (by omega)
  grind⟩
def cneg (s : Cs) : Cs := ⟨fun i => -s.f i, fun e he => by
  obtain ⟨n, h⟩ := s.c e he
  exact ⟨n, fun i j hi hj => by have := h j i hj hi; grind⟩⟩
def cmul (s t : Cs) : Cs := ⟨fun i => s.f i * t.f i, fun e he => by
  obtain ⟨B, n, hB, b1⟩ := s.bd
  obtain ⟨C, m, hC, c1⟩ := t.bd
  obtain ⟨p, h⟩ := s.c (e / (2 * C)) (div_pos he (Rat.mul_pos (by grind) hC))
  obtain ⟨q, k⟩ := t.c (e / (2 * B)) (div_pos he (Rat.mul_pos (by grind) hB))
  refine ⟨max (max n m) (max p q), fun i j hi hj => ?_⟩
  have h1 := h i j (by omega) (by omega)
  have h2 := h j i (by omega) (by omega)
  have k1 := k i j (by omega) (by omega)
  have k2 := k j i (by omega) (by omega)
  have b := b1 i (by omega)
  have c := c1 j (by omega)
  have x := prod_lt (x := s.f i) (y := t.f i - t.f j) (B := B) (e := e / (2 * B)) b.1 b.2 (by grind) k1
  have y := prod_lt (x := t.f j) (y := s.f i - s.f j) (B := C) (e := e / (2 * C)) c.1 c.2 (by grind) h1
  have e1 : B * (e / (2 * B)) = e / 2 := by grind
  have e2 : C * (e / (2 * C)) = e / 2 := by grind
  grind⟩
def crat (q : Rat) : Cs := ⟨fun _ => q, fun e he => ⟨0, fun _ _ _ _ => by grind⟩⟩
def clt (s t : Cs) : Prop := ∃ e : Rat, 0 < e ∧ ∃ n, ∀ i, n ≤ i → s.f i + e < t.f i
theorem add_ok {s s' t t' : Cs} (h : Eqv s s') (k : Eqv t t') : Eqv (cadd s t) (cadd s' t') := fun e he => by
  obtain ⟨n, h⟩ := h (e / 2) (div_pos he (by grind))
  obtain ⟨m, k⟩ := k (e / 2) (div_pos he (by grind))
  refine ⟨max n m, fun i hi => ?_⟩
  have a := h i (by omega)
  have b := k i (by omega)
  show -e < (s.f i + t.f i) - (s'.f i + t'.f i) ∧ (s.f i + t.f i) - (s'.f i + t'.f i) < e
  grind
theorem neg_ok {s s' : Cs} (h : Eqv s s') : Eqv (cneg s) (cneg s') := fun e he => by
  obtain ⟨n, h⟩ := h e he
  refine ⟨n, fun i hi => ?_⟩
  have a := h i hi
  show -e < (-s.f i) - (-s'.f i) ∧ (-s.f i) - (-s'.f i) < e
  grind
theorem mul_ok {s s' t t' : Cs} (h : Eqv s s') (k : Eqv t t') : Eqv (cmul s t) (cmul s' t') := fun e he => by
  obtain ⟨B, n, hB, b1⟩ := s.bd
  obtain ⟨C, m, hC, c1⟩ := t'.bd
  obtain ⟨p, h⟩ := h (e / (2 * C)) (div_pos he (Rat.mul_pos (by grind) hC))
  obtain ⟨q, k⟩ := k (e / (2 * B)) (div_pos he (Rat.mul_pos (by grind) hB))
  refine ⟨max (max n m) (max p q), fun i hi => ?_⟩
  have h1 := h i (by omega)
  have k1 := k i (by omega)
  have b := b1 i (by omega)
  have c := c1 i (by omega)
  have x := prod_lt (x := s.f i) (y := t.f i - t'.f i) (B := B) (e := e / (2 * B)) b.1 b.2 k1.1 k1.2
  have y := prod_lt (x := t'.f i) (y := s.f i - s'.f i) (B := C) (e := e / (2 * C)) c.1 c.2 h1.1 h1.2
  have x2 := prod_gt (x := s.f i) (y := t.f i - t'.f i) (B := B) (e := e / (2 * B)) b.1 b.2 k1.1 k1.2
  have y2 := prod_gt (x := t'.f i) (y := s.f i - s'.f i) (B := C) (e := e / (2 * C)) c.1 c.2 h1.1 h1.2
  have e1 : B * (e / (2 * B)) = e / 2 := by grind
  have e2 : C * (e / (2 * C)) = e / 2 := by grind
  show -e < s.f i * t.f i - s'.f i * t'.f i ∧ s.f i * t.f i - s'.f i * t'.f i < e
  grind
theorem lt_ok {s s' t t' : Cs} (h : Eqv s s') (k : Eqv t t') (l : clt s t) : clt s' t' := by
  obtain ⟨e, he, p, l⟩ := l
  obtain ⟨n, h⟩ := h (e / 3) (div_pos he (by grind))
  obtain ⟨m, k⟩ := k (e / 3) (div_pos he (by grind))
  refine ⟨e / 3, div_pos he (by grind), max p (max n m), fun i hi => ?_⟩
  have a := h i (by omega)
  have b := k i (by omega)
  have c := l i (by omega)
  grind
theorem tri {s t : Cs} (h1 : ¬ clt s t) (h2 : ¬ clt t s) : Eqv s t := fun e he => by
  obtain ⟨n, h⟩ := s.c (e / 6) (div_pos he (by grind))
  obtain ⟨m, k⟩ := t.c (e / 6) (div_pos he (by grind))
  refine ⟨max n m, fun i hi => ?_⟩
  have key : s.f (max n m) - t.f (max n m) < e / 2 ∧ t.f (max n m) - s.f (max n m) < e / 2 := by
    refine ⟨?_, ?_⟩
    · by_cases z : s.f (max n m) - t.f (max n m) < e / 2
      · exact z
      · refine absurd ⟨e / 7, div_pos he (by grind), max n m, fun j hj => ?_⟩ h2
        have a := h (max n m) j (by omega) (by omega)
        have b := k j (max n m) (by omega) (by omega)
        grind
    · by_cases z : t.f (max n m) - s.f (max n m) < e / 2
      · exact z
      · refine absurd ⟨e / 7, div_pos he (by grind), max n m, fun j hj => ?_⟩ h1
        have a := k (max n m) j (by omega) (by omega)
        have b := h j (max n m) (by omega) (by omega)
        grind
  have a := h i (max n m) (by omega) (by omega)
  have a2 := h (max n m) i (by omega) (by omega)
  have b := k i (max n m) (by omega) (by omega)
  have b2 := k (max n m) i (by omega) (by omega)
  grind
def R : Type := Quotient st
def mk (s : Cs) : R := Quotient.mk st s
theorem mk_eq {s t : Cs} : mk s = mk t ↔ Eqv s t := ⟨fun h => Quotient.exact h, fun h => Quotient.sound h⟩
theorem ex (a : R) : ∃ s, a = mk s := by
  induction a using Quotient.ind with
  | _ s => exact ⟨s, rfl⟩
def rat (q : Rat) : R := mk (crat q)
noncomputable section
def add (a b : R) : R := Quotient.lift₂ (fun s t => mk (cadd s t)) (fun _ _ _ _ h k => Quotient.sound (add_ok h k)) a b
def neg (a : R) : R := Quotient.lift (fun s => mk (cneg s)) (fun _ _ h => Quotient.sound (neg_ok h)) a
def mul (a b : R) : R := Quotient.lift₂ (fun s t => mk (cmul s t)) (fun _ _ _ _ h k => Quotient.sound (mul_ok h k)) a b
def lt (a b : R) : Prop := Quotient.lift₂ clt (fun _ _ _ _ h k => propext ⟨lt_ok h k, lt_ok h.symm k.symm⟩) a b
instance : Add R := ⟨add⟩
instance : Neg R := ⟨neg⟩
instance : Sub R := ⟨fun a b => a + -b⟩
instance : Mul R := ⟨mul⟩
instance : LT R := ⟨lt⟩
instance : LE R := ⟨fun a b => ¬ b < a⟩
instance : NatCast R := ⟨fun n => rat n⟩
instance : IntCast R := ⟨fun n => rat n⟩
instance (n : Nat) : OfNat R n := ⟨rat n⟩
def npow (a : R) : Nat → R
  | 0 => 1
  | n + 1 => npow a n * a
instance : HPow R Nat R := ⟨npow⟩
instance : SMul Nat R := ⟨fun n a => (n : R) * a⟩
instance : SMul Int R := ⟨fun n a => (n : R) * a⟩
theorem ext {s t : Cs} (h : ∀ i, s.f i = t.f i) : mk s = mk t := by
  have : s = t := by
    cases s
    cases t
    congr
    exact funext h
  rw [this]
theorem add_comm' (a b : R) : a + b = b + a := by
  obtain ⟨s, rfl⟩ := ex a
  obtain ⟨t, rfl⟩ := ex b
  exact ext fun i => Rat.add_comm ..
theorem add_assoc' (a b c : R) : a + b + c = a + (b + c) := by
  obtain ⟨s, rfl⟩ := ex a
  obtain ⟨t, rfl⟩ := ex b
  obtain ⟨u, rfl⟩ := ex c
  exact ext fun i => Rat.add_assoc ..
theorem add_zero' (a : R) : a + 0 = a := by
  obtain ⟨s, rfl⟩ := ex a
  exact ext fun i => Rat.add_zero _
theorem mul_comm' (a b : R) : a * b = b * a := by
  obtain ⟨s, rfl⟩ := ex a
  obtain ⟨t, rfl⟩ := ex b
  exact ext fun i => Rat.mul_comm ..
theorem mul_assoc' (a b c : R) : a * b * c = a * (b * c) := by
  obtain ⟨s, rfl⟩ := ex a
  obtain ⟨t, rfl⟩ := ex b
  obtain ⟨u, rfl⟩ := ex c
  exact ext fun i => Rat.mul_assoc ..
theorem mul_one' (a : R) : a * 1 = a := by
  obtain ⟨s, rfl⟩ := ex a
  exact ext fun i => Rat.mul_one _
theorem distrib' (a b c : R) : a * (b + c) = a * b + a * c := by
  obtain ⟨s, rfl⟩ := ex a
  obtain ⟨t, rfl⟩ := ex b
  obtain ⟨u, rfl⟩ := ex c
  exact ext fun i => Rat.mul_add ..
theorem zero_mul' (a : R) : 0 * a = 0 := by
  obtain ⟨s, rfl⟩ := ex a
  exact ext fun i => Rat.zero_mul _
theorem neg_add' (a : R) : -a + a = 0 := by
  obtain ⟨s, rfl⟩ := ex a
  exact ext fun i => Rat.neg_add_cancel _
theorem rat_add (p q : Rat) : rat (p + q) = rat p + rat q := rfl
theorem rat_mul (p q : Rat) : rat (p * q) = rat p * rat q := rfl
theorem rat_neg (p : Rat) : rat (-p) = -rat p := rfl
instance : Lean.Grind.CommRing R where
  add_zero := add_zero'
  add_comm := add_comm'
  add_assoc := add_assoc'
  mul_assoc := mul_assoc'
  mul_one := mul_one'
  one_mul a := by rw [mul_comm', mul_one']
  left_distrib := distrib'
  right_distrib a b c := by rw [mul_comm', distrib', mul_comm' c a, mul_comm' c b]
  zero_mul := zero_mul'
  mul_zero a := by rw [mul_comm', zero_mul']
  pow_zero _ := rfl
  pow_succ _ _ := rfl
  ofNat_succ n := by
    show rat ((n + 1 : Nat) : Rat) = rat (n : Rat) + rat ((1 : Nat) : Rat)
    rw [← rat_add]
    congr 1
    exact Rat.natCast_add n 1
  neg_add_cancel := neg_add'
  sub_eq_add_neg _ _ := rfl
  neg_zsmul i a := by
    show rat ((-i : Int) : Rat) * a = -(rat (i : Rat) * a)
    obtain ⟨s, rfl⟩ := ex a
    refine ext fun k => ?_
    show ((-i : Int) : Rat) * s.f k = -((i : Rat) * s.f k)
    rw [Rat.intCast_neg, Rat.neg_mul]
  intCast_neg i := by
    show rat ((-i : Int) : Rat) = -rat (i : Rat)
    rw [← rat_neg, Rat.intCast_neg]
  mul_comm := mul_comm'
theorem lt_mk {s t : Cs} : (mk s < mk t) ↔ clt s t := Iff.rfl
theorem lt_irrefl' (a : R) : ¬ a < a := by
  obtain ⟨s, rfl⟩ := ex a
  rintro ⟨e, he, n, h⟩
  have := h n (Nat.le_refl _)
  grind
theorem lt_trans' {a b c : R} (h : a < b) (k : b < c) : a < c := by
  obtain ⟨s, rfl⟩ := ex a
  obtain ⟨t, rfl⟩ := ex b
  obtain ⟨u, rfl⟩ := ex c
  obtain ⟨e, he, n, h⟩ := h
  obtain ⟨d, hd, m, k⟩ := k
  refine ⟨e, he, max n m, fun i hi => ?_⟩
  have a := h i (by omega)
  have b := k i (by omega)
  grind
theorem tri' {a b : R} (h1 : ¬ a < b) (h2 : ¬ b < a) : a = b := by
  obtain ⟨s, rfl⟩ := ex a
  obtain ⟨t, rfl⟩ := ex b
  exact mk_eq.mpr (tri h1 h2)
theorem le_def {a b : R} : a ≤ b ↔ ¬ b < a := Iff.rfl
theorem le_trans' {a b c : R} (h : a ≤ b) (k : b ≤ c) : a ≤ c := fun z => by
  by_cases q : a < b
  · exact k (lt_trans' z q)
  · have e := tri' q h
    subst e
    exact k z
instance : Std.IsLinearOrder R where
  le_refl a := lt_irrefl' a
  le_trans a b c := le_trans'
  le_antisymm a b h k := tri' k h
  le_total a b := by
    by_cases h : b < a
    · exact .inr fun z => lt_irrefl' _ (lt_trans' h z)
    · exact .inl h
instance : Std.LawfulOrderLT R where
  lt_iff a b := ⟨fun h => ⟨fun z => lt_irrefl' _ (lt_trans' h z), fun z => z h⟩, fun h => by
    by_cases z : a < b
    · exact z
    · exact absurd z h.2⟩
theorem add_lt' {a b : R} (c : R) (h : a < b) : a + c < b + c := by
  obtain ⟨s, rfl⟩ := ex a
  obtain ⟨t, rfl⟩ := ex b
  obtain ⟨u, rfl⟩ := ex c
  obtain ⟨e, he, n, h⟩ := h
  refine ⟨e, he, n, fun i hi => ?_⟩
  have := h i hi
  show s.f i + u.f i + e < t.f i + u.f i
  grind
theorem mul_pos' {a b : R} (h : 0 < a) (k : 0 < b) : 0 < a * b := by
  obtain ⟨s, rfl⟩ := ex a
  obtain ⟨t, rfl⟩ := ex b
  obtain ⟨e, he, n, h⟩ := h
  obtain ⟨d, hd, m, k⟩ := k
  refine ⟨e * d, Rat.mul_pos he hd, max n m, fun i hi => ?_⟩
  have a : (0 : Rat) + e < s.f i := h i (by omega)
  have b : (0 : Rat) + d < t.f i := k i (by omega)
  show (0 : Rat) + e * d < s.f i * t.f i
  have x := Rat.mul_pos (show (0 : Rat) < s.f i - e by grind) hd
  have y := Rat.mul_pos (show (0 : Rat) < s.f i by grind) (show (0 : Rat) < t.f i - d by grind)
  grind
theorem add_lt_iff' {a b : R} (c : R) : a + c < b + c ↔ a < b := ⟨fun h => by
  have := add_lt' (-c) h
  rwa [add_assoc', add_assoc', add_comm' c, neg_add', add_zero', add_zero'] at this, add_lt' c⟩
theorem rat_lt {p q : Rat} : rat p < rat q ↔ p < q := ⟨fun ⟨e, he, n, h⟩ => by
  have : p + e < q := h n (Nat.le_refl _)
  grind, fun h => ⟨(q - p) / 2, div_pos (by grind) (by grind), 0, fun i _ => by
    show p + (q - p) / 2 < q
    grind⟩⟩
theorem zero_lt_one' : (0 : R) < 1 := rat_lt.mpr (by decide)
theorem mul_lt' {a b c : R} (h : a < b) (k : 0 < c) : c * a < c * b := by
  have h1 : 0 < b + -a := by
    have := add_lt' (-a) h
    rwa [add_comm' a (-a), neg_add'] at this
  have h2 := mul_pos' k h1
  have h3 := add_lt' (c * a) h2
  have e : c * (b + -a) + c * a = c * b := by
    rw [← distrib', add_assoc', neg_add', add_zero']
  rw [e] at h3
  have e2 : (0 : R) + c * a = c * a := by rw [add_comm', add_zero']
  rwa [e2] at h3
instance : Lean.Grind.OrderedRing R where
  add_le_left_iff c := by
    show (¬ _ < _) ↔ ¬ _ + c < _ + c
    rw [add_lt_iff']
  zero_lt_one := zero_lt_one'
  mul_lt_mul_of_pos_left h k := mul_lt' h k
  mul_lt_mul_of_pos_right h k := by
    rw [mul_comm' _ _, mul_comm' _ _]
    first
      | exact mul_lt' h k
      | (rename_i a b c; rw [mul_comm' a c, mul_comm' b c]; exact mul_lt' h k)
/-! ### inverses -/
theorem inv_pos_ex {a : R} (h : 0 < a) : ∃ b, a * b = 1 := by
  obtain ⟨s, rfl⟩ := ex a
  obtain ⟨e, he, n, h⟩ := h
  have h : ∀ i, n ≤ i → e < s.f i := fun i hi => by
    have : (0 : Rat) + e < s.f i := h i hi
    grind
  refine ⟨mk ⟨fun i => (s.f i)⁻¹, fun d hd => ?_⟩, mk_eq.mpr fun d hd => ⟨n, fun i hi => ?_⟩⟩
  · obtain ⟨m, k⟩ := s.c (d * (e * e)) (Rat.mul_pos hd (Rat.mul_pos he he))
    refine ⟨max n m, fun i j hi hj => ?_⟩
    have a := h i (by omega)
    have b := h j (by omega)
    have c := k j i (by omega) (by omega)
    have p1 := Rat.mul_pos (show (0 : Rat) < s.f i - e by grind) (show (0 : Rat) < s.f j by grind)
    have p2 := Rat.mul_pos he (show (0 : Rat) < s.f j - e by grind)
    have p3 := Rat.mul_pos (show (0 : Rat) < s.f i by grind) (show (0 : Rat) < s.f j by grind)
    have p4 := Rat.mul_pos hd (show (0 : Rat) < s.f i * s.f j - e * e by grind)
    have e1 : s.f i * (s.f i)⁻¹ = 1 := by grind
    have e2 : s.f j * (s.f j)⁻¹ = 1 := by grind
    by_cases z : (s.f i)⁻¹ - (s.f j)⁻¹ < d
    · exact z
    · have q : 0 ≤ (s.f i * s.f j) * ((s.f i)⁻¹ - (s.f j)⁻¹ - d) := Rat.mul_nonneg (by grind) (by grind)
      have e3 : (s.f i * s.f j) * ((s.f i)⁻¹ - (s.f j)⁻¹ - d) = s.f j - s.f i - d * (s.f i * s.f j) := by grind
      grind
  · have a := h i hi
    have e1 : s.f i * (s.f i)⁻¹ = 1 := by grind
    show -d < s.f i * (s.f i)⁻¹ - (1 : Rat) ∧ s.f i * (s.f i)⁻¹ - (1 : Rat) < d
    grind
theorem inv_ex {a : R} (h : a ≠ 0) : ∃ b, a * b = 1 := by
  by_cases k : 0 < a
  · exact inv_pos_ex k
  · have k2 : 0 < -a := by
      by_cases z : a < 0
      · grind
      · exact absurd (tri' z k) h
    obtain ⟨b, hb⟩ := inv_pos_ex k2
    exact ⟨-b, by grind⟩
open Classical in
def inv (a : R) : R := if h : a = 0 then 0 else (inv_ex h).choose
instance : Inv R := ⟨inv⟩
instance : Div R := ⟨fun a b => a * b⁻¹⟩
theorem mul_inv' {a : R} (h : a ≠ 0) : a * a⁻¹ = 1 := by
  show a * inv a = 1
  unfold inv
  rw [dif_neg h]
  exact (inv_ex h).choose_spec
theorem inv_zero' : (0 : R)⁻¹ = 0 := by
  show inv 0 = 0
  unfold inv
  rw [dif_pos rfl]
end
end Rl
set_option Elab.async false
set_option linter.all false
/-! Rl2: the field, cuts, steps between, polynomials over the reals. -/
namespace Rl
noncomputable section
theorem inv_inv' (a : R) : a⁻¹⁻¹ = a := by
  by_cases h : a = 0
  · rw [h, inv_zero', inv_zero']
  · have h1 := mul_inv' h
    have h2 : a⁻¹ ≠ 0 := fun z => by
      rw [z] at h1
      have := zero_lt_one'
      grind
    have h3 := mul_inv' h2
    have : a * (a⁻¹ * a⁻¹⁻¹) = a⁻¹⁻¹ := by
      rw [← mul_assoc', h1]
      grind
    rw [← this, h3]
    grind
def zpow (a : R) : Int → R
  | .ofNat n => npow a n
  | .negSucc n => (npow a (n + 1))⁻¹
instance zp : HPow R Int R := ⟨zpow⟩
theorem inv_one' : (1 : R)⁻¹ = 1 := by
  have h : (1 : R) ≠ 0 := fun z => by
    have := zero_lt_one'
    grind
  have := mul_inv' h
  grind
instance : Lean.Grind.Field R where
  zpow := zp
  div_eq_mul_inv _ _ := rfl
  zero_ne_one := fun z => by
    have := zero_lt_one'
    rw [z] at this
    exact lt_irrefl' _ this
  inv_zero := inv_zero'
  mul_inv_cancel h := mul_inv' h
  zpow_zero _ := rfl
  zpow_succ _ _ := rfl
  zpow_neg a n := by
    show zpow a (-n) = (zpow a n)⁻¹
    match n with
    | .ofNat 0 => exact inv_one'.symm
    | .ofNat (n + 1) => rfl
    | .negSucc n => exact (inv_inv' _).symm
theorem le_of_not {a b : R} (h : ¬ b < a) : a ≤ b := h
theorem mul_pos {a b : R} (h : 0 < a) (k : 0 < b) : 0 < a * b := mul_pos' h k
theorem mul_nn {a b : R} (h : 0 ≤ a) (k : 0 ≤ b) : 0 ≤ a * b := by
  by_cases z : a = 0
  · rw [z]; grind
  · by_cases y : b = 0
    · rw [y]; grind
    · have := mul_pos (a := a) (b := b) (by grind) (by grind)
      grind
theorem sq_nn (a : R) : 0 ≤ a * a := by
  by_cases h : 0 ≤ a
  · exact mul_nn h h
  · have := mul_nn (a := -a) (b := -a) (by grind) (by grind)
    grind
theorem sq_pos {a : R} (h : a ≠ 0) : 0 < a * a := by
  by_cases k : 0 < a
  · exact mul_pos k k
  · have := mul_pos (a := -a) (b := -a) (by grind) (by grind)
    grind
theorem mul_ne {a b : R} (h : a ≠ 0) (k : b ≠ 0) : a * b ≠ 0 := fun z => by
  have := mul_inv' h
  have : b = a⁻¹ * (a * b) := by grind
  rw [z] at this
  grind
theorem mul_zero_or {a b : R} (h : a * b = 0) : a = 0 ∨ b = 0 := by
  by_cases ha : a = 0
  · exact .inl ha
  · by_cases hb : b = 0
    · exact .inr hb
    · exact absurd h (mul_ne ha hb)
/-! ### rationals, whole numbers -/
theorem rat_le {p q : Rat} : rat p ≤ rat q ↔ p ≤ q := by
  show (¬ rat q < rat p) ↔ _
  rw [rat_lt]
  grind
theorem rat_inj {p q : Rat} : rat p = rat q ↔ p = q := by
  refine ⟨fun h => ?_, fun h => by rw [h]⟩
  have h1 : ¬ p < q := fun z => lt_irrefl' (rat q) (by have := rat_lt.mpr z; rwa [h] at this)
  have h2 : ¬ q < p := fun z => lt_irrefl' (rat q) (by have := rat_lt.mpr z; rwa [h] at this)
  grind
theorem rat_sub (p q : Rat) : rat (p - q) = rat p - rat q := by
  rw [Rat.sub_eq_add_neg, rat_add, rat_neg]
  rfl
theorem int_rat (i : Int) : (i : R) = rat i := rfl
theorem int_add (i j : Int) : ((i + j : Int) : R) = i + j := by
  rw [int_rat, int_rat, int_rat, Rat.intCast_add, rat_add]
theorem int_mul (i j : Int) : ((i * j : Int) : R) = i * j := by
  rw [int_rat, int_rat, int_rat, Rat.intCast_mul, rat_mul]
theorem int_neg (i : Int) : ((-i : Int) : R) = -i := by
  rw [int_rat, int_rat, Rat.intCast_neg, rat_neg]
theorem int_sub (i j : Int) : ((i - j : Int) : R) = i - j := by
  rw [Int.sub_eq_add_neg, int_add, int_neg]
  rfl
theorem int_lt {i j : Int} : (i : R) < j ↔ i < j := by
  rw [int_rat, int_rat, rat_lt, Rat.intCast_lt_intCast]
theorem int_le {i j : Int} : (i : R) ≤ j ↔ i ≤ j := by
  rw [int_rat, int_rat, rat_le, Rat.intCast_le_intCast]
theorem int_inj {i j : Int} : (i : R) = j ↔ i = j := by
  rw [int_rat, int_rat, rat_inj, Rat.intCast_inj]
theorem int_zero : ((0 : Int) : R) = 0 := rfl
theorem int_one : ((1 : Int) : R) = 1 := rfl
theorem int_ofNat (n : Nat) : ((OfNat.ofNat n : Int) : R) = OfNat.ofNat n := rfl
theorem int_ne {i : Int} : (i : R) ≠ 0 ↔ i ≠ 0 := by
  rw [← int_zero, Ne, int_inj]
/-! ### far and near -/
theorem rat_arch (q : Rat) : ∃ n : Nat, q < (n : Rat) := by
  refine ⟨(q.floor + 1).toNat, ?_⟩
  have h := Rat.lt_floor_add_one q
  have h2 : (q.floor + 1 : Int) ≤ ((q.floor + 1).toNat : Int) := Int.self_le_toNat _
  have h3 := Rat.intCast_le_intCast.mpr h2
  rw [Rat.intCast_natCast] at h3
  grind
theorem above (a : R) : ∃ q : Rat, a < rat q := by
  obtain ⟨s, rfl⟩ := ex a
  obtain ⟨B, n, hB, b⟩ := s.bd
  refine ⟨B + 1, 1 / 2, by grind, n, fun i hi => ?_⟩
  have := b i hi
  show s.f i + 1 / 2 < B + 1
  grind
theorem arch (a : R) : ∃ n : Nat, a < ((n : Int) : R) := by
  obtain ⟨q, hq⟩ := above a
  obtain ⟨n, hn⟩ := rat_arch q
  refine ⟨n, lt_trans' hq ?_⟩
  rw [int_rat, rat_lt, Rat.intCast_natCast]
  exact hn
theorem between {a b : R} (h : a < b) : ∃ q : Rat, a < rat q ∧ rat q < b := by
  obtain ⟨s, rfl⟩ := ex a
  obtain ⟨t, rfl⟩ := ex b
  obtain ⟨e, he, n, h⟩ := h
  obtain ⟨m, k⟩ := s.c (e / 4) (div_pos he (by grind))
  obtain ⟨p, l⟩ := t.c (e / 4) (div_pos he (by grind))
  refine ⟨s.f (max n (max m p)) + e / 2, ⟨e / 5, div_pos he (by grind), max n (max m p), fun i hi => ?_⟩, ⟨e / 5, div_pos he (by grind), max n (max m p), fun i hi => ?_⟩⟩
  · have := k i (max n (max m p)) (by omega) (by omega)
    show s.f i + e / 5 < s.f (max n (max m p)) + e / 2
    grind
  · have h1 := h (max n (max m p)) (by omega)
    have h2 := l (max n (max m p)) i (by omega) (by omega)
    show s.f (max n (max m p)) + e / 2 + e / 5 < t.f i
    grind
/-! ### cuts -/
open Classical in
def bis (S : Rat → Prop) (l h : Rat) : Nat → Rat × Rat
  | 0 => (l, h)
  | n + 1 => if S (((bis S l h n).1 + (bis S l h n).2) / 2) then (((bis S l h n).1 + (bis S l h n).2) / 2, (bis S l h n).2) else ((bis S l h n).1, ((bis S l h n).1 + (bis S l h n).2) / 2)
section
variable {S : Rat → Prop} {l h : Rat}
theorem bis_S (h1 : S l) (h2 : ¬ S h) : ∀ n, S (bis S l h n).1 ∧ ¬ S (bis S l h n).2
  | 0 => ⟨h1, h2⟩
  | n + 1 => by
    have := bis_S h1 h2 n
    unfold bis
    split
    · exact ⟨by assumption, this.2⟩
    · exact ⟨this.1, by assumption⟩
theorem bis_w : ∀ n, ((bis S l h n).2 - (bis S l h n).1) * 2 ^ n = h - l
  | 0 => by
    show (h - l) * 2 ^ 0 = h - l
    rw [Rat.pow_zero]
    grind
  | n + 1 => by
    have := bis_w n
    unfold bis
    rw [Rat.pow_succ]
    split <;> grind
theorem bis_s1 {n : Nat} (k : S (((bis S l h n).1 + (bis S l h n).2) / 2)) : bis S l h (n + 1) = (((bis S l h n).1 + (bis S l h n).2) / 2, (bis S l h n).2) := if_pos k
theorem bis_s2 {n : Nat} (k : ¬ S (((bis S l h n).1 + (bis S l h n).2) / 2)) : bis S l h (n + 1) = ((bis S l h n).1, ((bis S l h n).1 + (bis S l h n).2) / 2) := if_neg k
theorem bis_step (hl : l < h) : ∀ n, (bis S l h n).1 < (bis S l h n).2 ∧ (bis S l h n).1 ≤ (bis S l h (n + 1)).1 ∧ (bis S l h (n + 1)).2 ≤ (bis S l h n).2 := by
  have lt : ∀ n, (bis S l h n).1 < (bis S l h n).2 := fun n => by
    induction n with
    | zero => exact hl
    | succ n ih =>
      by_cases k : S (((bis S l h n).1 + (bis S l h n).2) / 2)
      · rw [bis_s1 k]
        grind
      · rw [bis_s2 k]
        grind
  intro n
  refine ⟨lt n, ?_⟩
  have := lt n
  by_cases k : S (((bis S l h n).1 + (bis S l h n).2) / 2)
  · rw [bis_s1 k]
    grind
  · rw [bis_s2 k]
    grind
theorem bis_mono (hl : l < h) {n : Nat} : ∀ k : Nat, (bis S l h n).1 ≤ (bis S l h (n + k)).1 ∧ (bis S l h (n + k)).2 ≤ (bis S l h n).2
  | 0 => by
    rw [Nat.add_zero]
    grind
  | k + 1 => by
    have a := bis_mono (n := n) hl k
    have b := bis_step hl (S := S) (n + k)
    rw [show n + (k + 1) = n + k + 1 from rfl]
    grind
theorem bis_le (hl : l < h) {n m : Nat} (hn : n ≤ m) : (bis S l h n).1 ≤ (bis S l h m).1 ∧ (bis S l h m).2 ≤ (bis S l h n).2 := by
  have := bis_mono (S := S) hl (n := n) (m - n)
  rwa [show n + (m - n) = m by omega] at this
theorem pow_gt : ∀ n : Nat, (n : Rat) < 2 ^ n
  | 0 => by rw [Rat.pow_zero]; decide
  | n + 1 => by
    have a := pow_gt n
    have b : (1 : Rat) ≤ 2 ^ n := by
      clear a
      induction n with
      | zero => rw [Rat.pow_zero]; decide
      | succ n ih => rw [Rat.pow_succ]; grind
    rw [Rat.pow_succ, Rat.natCast_add]
    grind
theorem bis_near (hl : l < h) {e : Rat} (he : 0 < e) : ∃ n, ∀ m, n ≤ m → (bis S l h m).2 - (bis S l h m).1 < e := by
  obtain ⟨n, hn⟩ := rat_arch ((h - l) / e)
  refine ⟨n, fun m hm => ?_⟩
  have a := bis_le (S := S) hl hm
  have w := bis_w (S := S) (l := l) (h := h) n
  have p := pow_gt n
  have q : (h - l) < e * 2 ^ n := by
    have h1 : e * ((h - l) / e) = h - l := by grind
    have h2 : (h - l) / e < 2 ^ n := by grind
    have h3 := Rat.mul_lt_mul_of_pos_left h2 he
    grind
  have r : (bis S l h n).2 - (bis S l h n).1 < e := by
    by_cases z : (bis S l h n).2 - (bis S l h n).1 < e
    · exact z
    · have pp : (0 : Rat) < 2 ^ n := by
        have : (0 : Rat) ≤ (n : Rat) := by
          have := Rat.natCast_le_natCast.mpr (Nat.zero_le n)
          exact this
        grind
      have h1 : 0 ≤ ((bis S l h n).2 - (bis S l h n).1 - e) * 2 ^ n := Rat.mul_nonneg (by grind) (by grind)
      grind
  grind
/-- every cut is filled -/
theorem cut (hl : l < h) (h1 : S l) (h2 : ¬ S h) : ∃ x : R, rat l ≤ x ∧ x ≤ rat h ∧ ∀ e : Rat, 0 < e → ∃ p q, S p ∧ ¬ S q ∧ rat p ≤ x ∧ x ≤ rat q ∧ q - p < e ∧ l ≤ p ∧ q ≤ h := by
  let x : Cs := ⟨fun n => (bis S l h n).1, fun e he => by
    obtain ⟨n, hn⟩ := bis_near (S := S) hl he
    refine ⟨n, fun i j hi hj => ?_⟩
    have a := hn n (Nat.le_refl _)
    have b := bis_le (S := S) hl hi
    have c := bis_le (S := S) hl hj
    have d := (bis_step (S := S) hl i).1
    grind⟩
  have lo : ∀ n, rat (bis S l h n).1 ≤ mk x := fun n ⟨e, he, m, hm⟩ => by
    have a : (bis S l h (max n m)).1 + e < (bis S l h n).1 := hm (max n m) (by omega)
    have b := bis_le (S := S) hl (Nat.le_max_left n m)
    grind
  have hi : ∀ n, mk x ≤ rat (bis S l h n).2 := fun n ⟨e, he, m, hm⟩ => by
    have a : (bis S l h n).2 + e < (bis S l h (max n m)).1 := hm (max n m) (by omega)
    have b := bis_le (S := S) hl (Nat.le_max_left n m)
    have c := (bis_step (S := S) hl (max n m)).1
    grind
  refine ⟨mk x, lo 0, hi 0, fun e he => ?_⟩
  obtain ⟨n, hn⟩ := bis_near (S := S) hl he
  have s := bis_S (S := S) h1 h2 n
  have m := bis_le (S := S) hl (Nat.zero_le n)
  exact ⟨_, _, s.1, s.2, lo n, hi n, hn n (Nat.le_refl _), m.1, m.2⟩
end
/-! ### the size of a number -/
open Classical in
def ab (a : R) : R := if 0 ≤ a then a else -a
theorem ab_nn (a : R) : 0 ≤ ab a := by unfold ab; split <;> grind
theorem ab_up (a : R) : a ≤ ab a := by unfold ab; split <;> grind
theorem ab_dn (a : R) : -a ≤ ab a := by unfold ab; split <;> grind
theorem ab_le {a b : R} (h1 : a ≤ b) (h2 : -a ≤ b) : ab a ≤ b := by unfold ab; split <;> grind
theorem ab_neg (a : R) : ab (-a) = ab a := by unfold ab; split <;> split <;> grind
theorem ab_zero : ab 0 = 0 := by unfold ab; split <;> grind
theorem ab_pos {a : R} (h : a ≠ 0) : 0 < ab a := by unfold ab; split <;> grind
theorem ab_of_nn {a : R} (h : 0 ≤ a) : ab a = a := by unfold ab; rw [if_pos h]
theorem ab_add (a b : R) : ab (a + b) ≤ ab a + ab b := by
  have h1 := ab_up a
  have h2 := ab_dn a
  have h3 := ab_up b
  have h4 := ab_dn b
  exact ab_le (by grind) (by grind)
theorem ab_mul (a b : R) : ab (a * b) = ab a * ab b := by
  have key : ∀ x y : R, 0 ≤ x → 0 ≤ y → ab (x * y) = ab x * ab y := fun x y h k => by
    rw [ab_of_nn h, ab_of_nn k, ab_of_nn (mul_nn h k)]
  by_cases h : 0 ≤ a
  · by_cases k : 0 ≤ b
    · exact key a b h k
    · have := key a (-b) h (by grind)
      rw [ab_neg b, show a * -b = -(a * b) by grind, ab_neg] at this
      exact this
  · by_cases k : 0 ≤ b
    · have := key (-a) b (by grind) k
      rw [ab_neg a, show -a * b = -(a * b) by grind, ab_neg] at this
      exact this
    · have := key (-a) (-b) (by grind) (by grind)
      rw [ab_neg a, ab_neg b, show -a * -b = a * b by grind] at this
      exact this
theorem mul_le_l {a b c : R} (h : a ≤ b) (k : 0 ≤ c) : c * a ≤ c * b := by
  have := mul_nn k (show 0 ≤ b - a by grind)
  grind
/-! ### polynomials: lists of coefficients, rising -/
def pv : List R → R → R
  | [], _ => 0
  | c :: r, x => c + x * pv r x
/-- near x a polynomial moves by no more than L times the way -/
theorem pv_lip (x : R) : ∀ p : List R, ∃ L : R, 0 ≤ L ∧ ∀ y, ab (y - x) ≤ 1 → ab (pv p y - pv p x) ≤ L * ab (y - x)
  | [] => ⟨0, by grind, fun y _ => by
    show ab (0 - 0) ≤ _
    rw [show (0 : R) - 0 = 0 by grind, ab_zero]
    grind⟩
  | c :: r => by
    obtain ⟨L, hL, h⟩ := pv_lip x r
    refine ⟨(ab x + 1) * L + ab (pv r x), ?_, fun y hy => ?_⟩
    · have := mul_nn (show 0 ≤ ab x + 1 by have := ab_nn x; grind) hL
      have := ab_nn (pv r x)
      grind
    · have e : pv (c :: r) y - pv (c :: r) x = y * (pv r y - pv r x) + (y - x) * pv r x := by
        show c + y * pv r y - (c + x * pv r x) = _
        grind
      rw [e]
      have h1 := ab_add (y * (pv r y - pv r x)) ((y - x) * pv r x)
      rw [ab_mul, ab_mul] at h1
      have h2 := h y hy
      have h3 : ab y ≤ ab x + 1 := by
        have := ab_add x (y - x)
        rw [show x + (y - x) = y by grind] at this
        grind
      have h4 := mul_le_l h2 (ab_nn y)
      have h5 := mul_le_l h3 (mul_nn hL (ab_nn (y - x)))
      grind
/-- a function is steady at x -/
def Cont (f : R → R) (x : R) : Prop := ∀ e : R, 0 < e → ∃ d : R, 0 < d ∧ ∀ y, ab (y - x) < d → ab (f y - f x) < e
theorem cont_pv (p : List R) (x : R) : Cont (pv p) x := fun e he => by
  obtain ⟨L, hL, h⟩ := pv_lip x p
  have hp : 0 < L + 1 := by
    have := zero_lt_one'
    grind
  have hi : 0 < e * (L + 1)⁻¹ := by
    refine mul_pos he ?_
    have h1 := mul_inv' (a := L + 1) (by grind)
    by_cases z : 0 < (L + 1)⁻¹
    · exact z
    · have := mul_nn (a := L + 1) (b := -(L + 1)⁻¹) (by grind) (by grind)
      have := zero_lt_one'
      grind
  by_cases z : e * (L + 1)⁻¹ ≤ 1
  · refine ⟨e * (L + 1)⁻¹, hi, fun y hy => ?_⟩
    have h1 := h y (by grind)
    have h2 := mul_pos hp (show 0 < e * (L + 1)⁻¹ - ab (y - x) by grind)
    have h3 := mul_inv' (a := L + 1) (by grind)
    have h4 := ab_nn (y - x)
    have h5 : (L + 1) * (e * (L + 1)⁻¹) = e := by grind
    grind
  · refine ⟨1, zero_lt_one', fun y hy => ?_⟩
    have h1 := h y (by grind)
    have h2 := mul_nn hL (show 0 ≤ 1 - ab (y - x) by grind)
    have h3 := mul_inv' (a := L + 1) (by grind)
    have h5 : (L + 1) * (e * (L + 1)⁻¹) = e := by grind
    have h6 := mul_pos hp (show 0 < e * (L + 1)⁻¹ - 1 by grind)
    grind
theorem cont_sign {f : R → R} {x : R} (c : Cont f x) (h : 0 < f x) : ∃ d : R, 0 < d ∧ ∀ y, ab (y - x) < d → 0 < f y := by
  obtain ⟨d, hd, k⟩ := c (f x) h
  refine ⟨d, hd, fun y hy => ?_⟩
  have a := k y hy
  have b := ab_dn (f y - f x)
  grind
theorem cont_neg {f : R → R} {x : R} (c : Cont f x) : Cont (fun y => -f y) x := fun e he => by
  obtain ⟨d, hd, k⟩ := c e he
  refine ⟨d, hd, fun y hy => ?_⟩
  have a := k y hy
  rw [show -f y - -f x = -(f y - f x) by grind, ab_neg]
  exact a
/-- from below nought to above it, between rationals -/
theorem ivt_rat {f : R → R} {l h : Rat} (hl : l < h) (c : ∀ x, rat l ≤ x → x ≤ rat h → Cont f x) (h1 : f (rat l) ≤ 0) (h2 : 0 < f (rat h)) : ∃ x, rat l ≤ x ∧ x ≤ rat h ∧ f x = 0 := by
  obtain ⟨x, x1, x2, hx⟩ := cut (S := fun q => f (rat q) ≤ 0) hl h1 (by grind)
  refine ⟨x, x1, x2, ?_⟩
  have near : ∀ d : R, 0 < d → ∃ e : Rat, 0 < e ∧ rat e < d := fun d hd => by
    obtain ⟨q, q1, q2⟩ := between hd
    exact ⟨q, rat_lt.mp q1, q2⟩
  by_cases p : 0 < f x
  · obtain ⟨d, hd, k⟩ := cont_sign (c x x1 x2) p
    obtain ⟨e, he, hed⟩ := near d hd
    obtain ⟨a, b, s1, s2, a1, b1, w, _, _⟩ := hx e he
    have w1 := rat_lt.mpr w
    rw [rat_sub] at w1
    have := k (rat a) (by
      rw [← ab_neg, ab_of_nn (by grind)]
      grind)
    grind
  · by_cases n : f x < 0
    · obtain ⟨d, hd, k⟩ := cont_sign (cont_neg (c x x1 x2)) (show 0 < -f x by grind)
      obtain ⟨e, he, hed⟩ := near d hd
      obtain ⟨a, b, s1, s2, a1, b1, w, _, _⟩ := hx e he
      have w1 := rat_lt.mpr w
      rw [rat_sub] at w1
      have := k (rat b) (by
        rw [ab_of_nn (by grind)]
        grind)
      grind
    · grind
end
end Rl
set_option Elab.async false
set_option linter.all false
set_option maxRecDepth 100000
set_option maxHeartbeats 4000000
/-! Pl: polynomials over the reals, as rows of coefficients, rising. -/
namespace Rl
noncomputable section
def coef : List R → Nat → R
  | [], _ => 0
  | c :: _, 0 => c
  | _ :: r, k + 1 => coef r k
def padd : List R → List R → List R
  | [], q => q
  | a :: p, [] => a :: p
  | a :: p, b :: q => (a + b) :: padd p q
def psm (c : R) (p : List R) : List R := p.map (c * ·)
def pmul : List R → List R → List R
  | [], _ => []
  | c :: r, q => padd (psm c q) (0 :: pmul r q)
theorem pv_nil (x : R) : pv [] x = 0 := rfl
theorem pv_cons (c : R) (r : List R) (x : R) : pv (c :: r) x = c + x * pv r x := rfl
theorem pv_padd (x : R) : ∀ p q : List R, pv (padd p q) x = pv p x + pv q x
  | [], q => by show pv q x = 0 + pv q x; grind
  | a :: p, [] => by show pv (a :: p) x = pv (a :: p) x + 0; grind
  | a :: p, b :: q => by
    show (a + b) + x * pv (padd p q) x = (a + x * pv p x) + (b + x * pv q x)
    rw [pv_padd x p q]
    grind
theorem pv_psm (x c : R) : ∀ p : List R, pv (psm c p) x = c * pv p x
  | [] => by show (0 : R) = c * 0; grind
  | a :: p => by
    have h := pv_psm x c p
    show c * a + x * pv (psm c p) x = c * (a + x * pv p x)
    rw [h]
    grind
theorem pv_pmul (x : R) : ∀ p q : List R, pv (pmul p q) x = pv p x * pv q x
  | [], q => by show (0 : R) = 0 * pv q x; grind
  | a :: p, q => by
    show pv (padd (psm a q) (0 :: pmul p q)) x = (a + x * pv p x) * pv q x
    rw [pv_padd, pv_psm, pv_cons, pv_pmul x p q]
    grind
theorem coef_nil (k : Nat) : coef [] k = 0 := by cases k <;> rfl
theorem coef_ge : ∀ (p : List R) (k : Nat), p.length ≤ k → coef p k = 0
  | [], k, _ => coef_nil k
  | a :: p, 0, h => by simp at h
  | a :: p, k + 1, h => coef_ge p k (by simpa using h)
theorem coef_padd : ∀ (p q : List R) (k : Nat), coef (padd p q) k = coef p k + coef q k
  | [], q, k => by show coef q k = coef [] k + coef q k; rw [coef_nil]; grind
  | a :: p, [], k => by show coef (a :: p) k = coef (a :: p) k + coef [] k; rw [coef_nil]; grind
  | a :: p, b :: q, 0 => rfl
  | a :: p, b :: q, k + 1 => coef_padd p q k
theorem coef_psm (c : R) : ∀ (p : List R) (k : Nat), coef (psm c p) k = c * coef p k
  | [], k => by
    show coef [] k = c * coef [] k
    rw [coef_nil]
    grind
  | a :: p, 0 => rfl
  | a :: p, k + 1 => coef_psm c p k
/-- the top of a product -/
theorem coef_top : ∀ (p q : List R) (m n : Nat), p.length = m + 1 → q.length = n + 1 → coef (pmul p q) (m + n) = coef p m * coef q n ∧ ∀ k, m + n < k → coef (pmul p q) k = 0
  | [], q, m, n, h, _ => by simp at h
  | [a], q, m, n, h, hq => by
    have hm : m = 0 := by simp at h; omega
    subst hm
    have e : ∀ k, coef (pmul [a] q) k = a * coef q k := fun k => by
      show coef (padd (psm a q) [0]) k = _
      rw [coef_padd, coef_psm]
      cases k with
      | zero => show _ + 0 = _; grind
      | succ k => show _ + coef [] k = _; rw [coef_nil]; grind
    refine ⟨by rw [e, Nat.zero_add]; rfl, fun k hk => ?_⟩
    rw [e, coef_ge q k (by omega)]
    grind
  | a :: b :: p, q, m, n, h, hq => by
    obtain ⟨m, rfl⟩ : ∃ m', m = m' + 1 := ⟨m - 1, by simp at h; omega⟩
    obtain ⟨h1, h2⟩ := coef_top (b :: p) q m n (by simp at h ⊢; omega) hq
    have e : ∀ k, coef (pmul (a :: b :: p) q) (k + 1) = a * coef q (k + 1) + coef (pmul (b :: p) q) k := fun k => by
      show coef (padd (psm a q) (0 :: pmul (b :: p) q)) (k + 1) = _
      rw [coef_padd, coef_psm]
      rfl
    refine ⟨?_, fun k hk => ?_⟩
    · rw [show m + 1 + n = (m + n) + 1 by omega, e, coef_ge q (m + n + 1) (by omega), h1]
      show a * 0 + coef (b :: p) m * coef q n = coef (b :: p) m * coef q n
      grind
    · obtain ⟨k, rfl⟩ : ∃ k', k = k' + 1 := ⟨k - 1, by omega⟩
      rw [e, coef_ge q (k + 1) (by omega), h2 k (by omega)]
      grind
/-- nought everywhere above nought: no coefficients -/
theorem ident : ∀ p : List R, (∀ x, 0 < x → pv p x = 0) → ∀ k, coef p k = 0
  | [], _, k => coef_nil k
  | c :: r, h, k => by
    have c0 : c = 0 := by
      obtain ⟨L, hL, hl⟩ := pv_lip 0 (c :: r)
      have e0 : pv (c :: r) 0 = c := by rw [pv_cons]; grind
      have key : ∀ y, 0 < y → y ≤ 1 → ab c ≤ L * y := fun y y0 y1 => by
        have a := hl y (by rw [ab_of_nn (by grind)]; grind)
        rw [e0, h y y0] at a
        rw [show (0 : R) - c = -c by grind, ab_neg, ab_of_nn (show 0 ≤ y - 0 by grind)] at a
        grind
      by_cases z : c = 0
      · exact z
      · exfalso
        have hc := ab_pos z
        have hL1 : 0 < L + 1 := by have := zero_lt_one'; grind
        have hi := mul_inv' (a := L + 1) (by grind)
        have hi0 : 0 < (L + 1)⁻¹ := by
          by_cases w : 0 < (L + 1)⁻¹
          · exact w
          · have := mul_nn (a := L + 1) (b := -(L + 1)⁻¹) (by grind) (by grind)
            have := zero_lt_one'
            grind
        by_cases w : ab c * (L + 1)⁻¹ ≤ 1
        · have k1 := key (ab c * (L + 1)⁻¹) (mul_pos hc hi0) w
          have k2 : L * (ab c * (L + 1)⁻¹) + ab c * (L + 1)⁻¹ = ab c := by
            have : (L + 1) * (L + 1)⁻¹ * ab c = ab c := by rw [hi]; grind
            grind
          have := mul_pos hc hi0
          grind
        · have k1 := key 1 zero_lt_one' (by grind)
          have k2 := mul_pos hL1 (show 0 < ab c * (L + 1)⁻¹ - 1 by grind)
          have : (L + 1) * (L + 1)⁻¹ * ab c = ab c := by rw [hi]; grind
          grind
    cases k with
    | zero => exact c0
    | succ k =>
      refine ident r (fun x hx => ?_) k
      have := h x hx
      rw [pv_cons, c0] at this
      rcases mul_zero_or (show x * pv r x = 0 by grind) with z | z
      · grind
      · exact z
theorem pv_zero : ∀ p : List R, (∀ k, coef p k = 0) → ∀ x, pv p x = 0
  | [], _, x => rfl
  | c :: r, h, x => by
    have h0 : c = 0 := h 0
    rw [pv_cons, pv_zero r (fun k => h (k + 1)) x, h0]
    grind
/-- a row without noughts behind, of the same worths -/
theorem stripped : ∀ p : List R, ∃ q : List R, (∀ x, pv q x = pv p x) ∧ (∀ k, coef q k = coef p k) ∧ (q = [] ∨ ∃ n, q.length = n + 1 ∧ coef q n ≠ 0)
  | [] => ⟨[], fun _ => rfl, fun _ => rfl, .inl rfl⟩
  | c :: r => by
    obtain ⟨q, h1, h2, h3⟩ := stripped r
    by_cases z : q = [] ∧ c = 0
    · refine ⟨[], fun x => ?_, fun k => ?_, .inl rfl⟩
      · rw [pv_cons, ← h1, z.1, z.2]
        show (0 : R) = 0 + x * 0
        grind
      · cases k with
        | zero => exact z.2.symm
        | succ k =>
          show coef [] (k + 1) = coef r k
          rw [← h2, z.1, coef_nil, coef_nil]
    · refine ⟨c :: q, fun x => by rw [pv_cons, pv_cons, h1], fun k => ?_, .inr ?_⟩
      · cases k with
        | zero => rfl
        | succ k => exact h2 k
      · rcases h3 with h3 | ⟨n, h3, h4⟩
        · refine ⟨0, by simp [h3], ?_⟩
          show c ≠ 0
          exact fun w => z ⟨h3, w⟩
        · exact ⟨n + 1, by simp [h3], h4⟩
theorem coef_len {p : List R} {k : Nat} (h : coef p k ≠ 0) : k < p.length := by
  by_cases z : k < p.length
  · exact z
  · exact absurd (coef_ge p k (by omega)) h
/-- of a lower degree than q, and q times something: nought -/
theorem low_mul {p h q : List R} {n : Nat} (hq : q.length = n + 1) (hn : coef q n ≠ 0) (hp : ∀ k, n ≤ k → coef p k = 0) (e : ∀ x, 0 < x → pv p x = pv h x * pv q x) : ∀ k, coef p k = 0 := by
  obtain ⟨g, g1, g2, g3⟩ := stripped h
  rcases g3 with g3 | ⟨m, g3, g4⟩
  · refine ident p fun x hx => ?_
    rw [e x hx, ← g1, g3, pv_nil]
    grind
  · exfalso
    have id := ident (padd p (psm (-1) (pmul g q))) fun x hx => by
      rw [pv_padd, pv_psm, pv_pmul, g1, e x hx]
      grind
    have t := id (m + n)
    rw [coef_padd, coef_psm, (coef_top g q m n g3 hq).1, hp (m + n) (by omega)] at t
    have := mul_ne g4 hn
    grind
end
end Rl
set_option Elab.async false
set_option linter.all false
set_option maxRecDepth 100000
set_option maxHeartbeats 4000000
/-! Pd: whole polynomials: signs, division with a factor; what they say of real worths. -/
namespace Pd
open Rl
def sgn (a b : Int) : Int := if a < b then -1 else if b < a then 1 else 0
def sz (p : List Int) : Nat → Nat
  | 0 => 0
  | k + 1 => if p[k]? = some 0 then sz p k else k + 1
/-- noughts behind are let go -/
def strip (p : List Int) : List Int := p.take (sz p p.length)
theorem sz_le (p : List Int) : ∀ k, sz p k ≤ k
  | 0 => Nat.le_refl _
  | k + 1 => by
    unfold sz
    split
    · have := sz_le p k
      omega
    · omega
/-- P at t / b, times b to the power of its degree; and b to the power of its length -/
def th (t b : Int) : List Int → Int × Int
  | [] => (0, 1)
  | c :: r => ((th t b r).1 * t + c * (th t b r).2, (th t b r).2 * b)
def subAt (m : Int) : Nat → List Int → List Int → List Int
  | _, [], r => r
  | j, c :: cs, r => subAt m (j + 1) cs (r.set j ((r[j]?).getD 0 - m * c))
theorem subAt_len (m : Int) : ∀ (cs : List Int) (j : Nat) (r : List Int), (subAt m j cs r).length = r.length
  | [], _, _ => rfl
  | c :: cs, j, r => by
    unfold subAt
    rw [subAt_len m cs]
    simp
def divStep (q : List Int) (l : Int) (k : Nat) (r : List Int) : List Int := subAt (((r[k + (q.length - 1)]?).getD 0).fdiv l) k q r
def divLoop (q : List Int) (l : Int) : Nat → List Int → List Int
  | 0, r => r
  | k + 1, r => divLoop q l k (divStep q l k r)
theorem divStep_len (q : List Int) (l : Int) (k : Nat) (r : List Int) : (divStep q l k r).length = r.length := subAt_len ..
theorem divLoop_len (q : List Int) (l : Int) : ∀ (k : Nat) (r : List Int), (divLoop q l k r).length = r.length
  | 0, _ => rfl
  | k + 1, r => by
    unfold divLoop
    rw [divLoop_len q l k, divStep_len]
/-- the quotient's row -/
def quoLoop (q : List Int) (l : Int) : Nat → List Int → List Int → List Int
  | 0, _, u => u
  | k + 1, r, u => quoLoop q l k (divStep q l k r) (u.set k (((r[k + (q.length - 1)]?).getD 0).fdiv l))
theorem quoLoop_len (q : List Int) (l : Int) : ∀ (k : Nat) (r u : List Int), (quoLoop q l k r u).length = u.length
  | 0, _, _ => rfl
  | k + 1, r, u => by
    unfold quoLoop
    rw [quoLoop_len q l k]
    simp
def aint (x : Int) : Int := if x < 0 then -x else x
/-- what is left of P, times the factor, divided by Q -/
def rst (p q : List Int) (l : Int) : List Int := divLoop q l (p.length - q.length + 1) (p.map (· * aint l ^ (p.length - q.length + 1)))
def quo (p q : List Int) (l : Int) : List Int := quoLoop q l (p.length - q.length + 1) (p.map (· * aint l ^ (p.length - q.length + 1))) (List.replicate (p.length - q.length + 1) 0)
/-- does q, its last coefficient l, divide p? -/
def dvB (p q : List Int) (l : Int) : Bool := if p.length < q.length then decide (p = []) else decide (strip (rst p q l) = [])
/-! ### coefficients -/
abbrev ic (p : List Int) (k : Nat) : Int := (p[k]?).getD 0
theorem ic_nil (k : Nat) : ic [] k = 0 := rfl
theorem ic_ge {p : List Int} {k : Nat} (h : p.length ≤ k) : ic p k = 0 := by
  show (p[k]?).getD 0 = 0
  rw [List.getElem?_eq_none h]
  rfl
theorem ic_set (p : List Int) (j k : Nat) (v : Int) (h : j < p.length) : ic (p.set j v) k = if j = k then v else ic p k := by
  show ((p.set j v)[k]?).getD 0 = _
  rw [List.getElem?_set]
  by_cases e : j = k
  · rw [if_pos e, if_pos e, if_pos h]
    rfl
  · rw [if_neg e, if_neg e]
theorem ic_subAt (m : Int) : ∀ (cs : List Int) (j : Nat) (r : List Int) (k : Nat), j + cs.length ≤ r.length → ic (subAt m j cs r) k = ic r k - m * (if j ≤ k then ic cs (k - j) else 0)
  | [], j, r, k, _ => by
    show ic r k = ic r k - m * (if j ≤ k then 0 else 0)
    split <;> omega
  | c :: cs, j, r, k, h => by
    have h : j + (cs.length + 1) ≤ r.length := h
    show ic (subAt m (j + 1) cs (r.set j (ic r j - m * c))) k = _
    rw [ic_subAt m cs (j + 1) _ k (by simp; omega), ic_set _ _ _ _ (by omega)]
    by_cases e : j = k
    · subst e
      rw [if_pos rfl, if_neg (show ¬ j + 1 ≤ j by omega), if_pos (Nat.le_refl j), Nat.sub_self]
      show _ = ic r j - m * c
      omega
    · rw [if_neg e]
      by_cases l : j ≤ k
      · rw [if_pos l, if_pos (show j + 1 ≤ k by omega)]
        have : k - j = (k - (j + 1)) + 1 := by omega
        rw [this]
        rfl
      · rw [if_neg l, if_neg (show ¬ j + 1 ≤ k by omega)]
theorem fdiv_of_mul {l a b : Int} (h0 : l ≠ 0) (h : a = l * b) : a.fdiv l = b := by
  rw [h]
  exact Int.mul_fdiv_cancel_left b h0
theorem aint_dvd {l : Int} (n : Nat) {a : Int} (h : aint l ^ (n + 1) ∣ a) : ∃ b, a = l * b ∧ aint l ^ n ∣ b := by
  obtain ⟨z, rfl⟩ := h
  by_cases c : l < 0
  · refine ⟨-(aint l ^ n * z), ?_, ⟨-z, by grind⟩⟩
    have : aint l = -l := if_pos c
    rw [Int.pow_succ]
    grind
  · refine ⟨aint l ^ n * z, ?_, ⟨z, rfl⟩⟩
    have : aint l = l := if_neg c
    rw [Int.pow_succ]
    grind
section
variable {q : List Int} {l : Int} {d : Nat} (hq : q.length = d + 1) (hl : ic q d = l) (h0 : l ≠ 0)
include hq hl h0
theorem step_spec {k : Nat} {r : List Int} (hr : k + 1 + d ≤ r.length) (hd : ∀ i, aint l ^ (k + 1) ∣ ic r i) (hz : ∀ i, k + 1 + d ≤ i → ic r i = 0) :
    (∀ i, aint l ^ k ∣ ic (divStep q l k r) i) ∧ (∀ i, k + d ≤ i → ic (divStep q l k r) i = 0) := by
  obtain ⟨b, hb, hbd⟩ := aint_dvd k (hd (k + d))
  have hm : (ic r (k + d)).fdiv l = b := fdiv_of_mul h0 hb
  have e : ∀ i, ic (divStep q l k r) i = ic r i - b * (if k ≤ i then ic q (i - k) else 0) := fun i => by
    unfold divStep
    rw [hq, Nat.add_sub_cancel, ic_subAt _ _ _ _ _ (by omega)]
    show _ = ic r i - b * _
    rw [← hm]
  constructor
  · intro i
    rw [e]
    have h1 : aint l ^ k ∣ ic r i := Int.dvd_trans ⟨aint l, by rw [Int.pow_succ]⟩ (hd i)
    exact Int.dvd_sub h1 (Int.dvd_trans hbd ⟨_, rfl⟩)
  · intro i hi
    rw [e, if_pos (by omega)]
    by_cases c : i = k + d
    · subst c
      rw [Nat.add_sub_cancel_left, hl, hb]
      grind
    · rw [hz i (by omega), ic_ge (p := q) (by omega)]
      omega
theorem loop_low : ∀ (n : Nat) (r : List Int), n + d ≤ r.length → (∀ i, aint l ^ n ∣ ic r i) → (∀ i, n + d ≤ i → ic r i = 0) → ∀ i, d ≤ i → ic (divLoop q l n r) i = 0
  | 0, r, _, _, hz, i, hi => hz i (by omega)
  | k + 1, r, hr, hd, hz, i, hi => by
    obtain ⟨s1, s2⟩ := step_spec hq hl h0 hr hd hz
    exact loop_low k (divStep q l k r) (by rw [divStep_len]; omega) s1 s2 i hi
end
theorem ic_map (p : List Int) (c : Int) (k : Nat) : ic (p.map (· * c)) k = ic p k * c := by
  show ((p.map (· * c))[k]?).getD 0 = (p[k]?).getD 0 * c
  rw [List.getElem?_map]
  cases p[k]? with
  | none => show (0 : Int) = 0 * c; omega
  | some x => rfl
theorem last_ic {q : List Int} {l : Int} (h : q.getLast? = some l) : ∃ d, q.length = d + 1 ∧ ic q d = l := by
  cases q with
  | nil => cases h
  | cons a r =>
    refine ⟨r.length, rfl, ?_⟩
    rw [List.getLast?_eq_getElem?] at h
    show ((a :: r)[r.length]?).getD 0 = l
    rw [show r.length = (a :: r).length - 1 from rfl, h]
    rfl
theorem rst_low {p q : List Int} {l : Int} (hl : q.getLast? = some l) (h0 : l ≠ 0) (hle : q.length ≤ p.length) : ∀ i, q.length ≤ i + 1 → ic (rst p q l) i = 0 := by
  obtain ⟨d, hd, hc⟩ := last_ic hl
  intro i hi
  unfold rst
  refine loop_low hd hc h0 _ _ (by simp; omega) (fun i => ?_) (fun i hi => ?_) i (by omega)
  · rw [ic_map]
    exact ⟨ic p i, by rw [Int.mul_comm]⟩
  · rw [ic_map, ic_ge (p := p) (by omega)]
    omega
/-! ### noughts behind -/
theorem strip_ic (p : List Int) : ∀ k, ic (strip p) k = ic p k := by
  have key : ∀ (n k : Nat), sz p n ≤ k → k < n → ic p k = 0 := by
    intro n
    induction n with
    | zero => intro k _ h; omega
    | succ n ih =>
      intro k h1 h2
      unfold sz at h1
      split at h1
      · rename_i z
        by_cases e : k = n
        · subst e
          show (p[k]?).getD 0 = 0
          rw [z]
          rfl
        · exact ih k h1 (by omega)
      · omega
  intro k
  show ((p.take (sz p p.length))[k]?).getD 0 = (p[k]?).getD 0
  rw [List.getElem?_take]
  split
  · rfl
  · rename_i h
    by_cases hk : k < p.length
    · exact (key p.length k (by omega) hk).symm
    · rw [List.getElem?_eq_none (by omega)]
theorem strip_len (p : List Int) : (strip p).length = sz p p.length := by
  unfold strip
  rw [List.length_take]
  have := sz_le p p.length
  omega
theorem strip_top (p : List Int) : strip p = [] ∨ ∃ n, (strip p).length = n + 1 ∧ ic (strip p) n ≠ 0 := by
  have key : ∀ n, n ≤ p.length → sz p n = 0 ∨ ∃ m, sz p n = m + 1 ∧ ic p m ≠ 0 := by
    intro n
    induction n with
    | zero => intro _; exact .inl rfl
    | succ n ih =>
      intro h
      unfold sz
      split
      · exact ih (by omega)
      · rename_i z
        refine .inr ⟨n, rfl, fun w => z ?_⟩
        have : p[n]? = some p[n] := List.getElem?_eq_getElem (by omega)
        have w : (p[n]?).getD 0 = 0 := w
        rw [this] at w ⊢
        exact congrArg some w
  rcases key p.length (Nat.le_refl _) with h | ⟨m, h, h2⟩
  · exact .inl (List.eq_nil_of_length_eq_zero (by rw [strip_len]; exact h))
  · exact .inr ⟨m, by rw [strip_len]; exact h, by rw [strip_ic]; exact h2⟩
theorem strip_nil {p : List Int} (h : ∀ k, ic p k = 0) : strip p = [] := by
  rcases strip_top p with z | ⟨n, _, z⟩
  · exact z
  · rw [strip_ic] at z
    exact absurd (h n) z
/-! ### real worths -/
noncomputable section
def ri (p : List Int) : List R := p.map fun i : Int => (i : R)
def ipv (p : List Int) (x : R) : R := pv (ri p) x
theorem ipv_nil (x : R) : ipv [] x = 0 := rfl
theorem ipv_cons (c : Int) (r : List Int) (x : R) : ipv (c :: r) x = (c : R) + x * ipv r x := rfl
theorem ri_len (p : List Int) : (ri p).length = p.length := by simp [ri]
theorem coef_ri : ∀ (p : List Int) (k : Nat), coef (ri p) k = ((ic p k : Int) : R)
  | [], k => by
    rw [show ri [] = [] from rfl, coef_nil]
    rfl
  | c :: r, 0 => rfl
  | c :: r, k + 1 => coef_ri r k
theorem ipv_zero {p : List Int} (h : ∀ k, ic p k = 0) (x : R) : ipv p x = 0 := pv_zero _ (fun k => by rw [coef_ri, h]; rfl) x
/-- equal coefficients, equal worths -/
theorem ipv_ext : ∀ {p q : List Int}, (∀ k, ic p k = ic q k) → ∀ x, ipv p x = ipv q x
  | [], q, h, x => by rw [ipv_nil, ipv_zero fun k => (h k).symm]
  | c :: r, [], h, x => by rw [ipv_nil, ipv_zero fun k => h k]
  | c :: r, c' :: r', h, x => by
    have h0 : c = c' := h 0
    rw [ipv_cons, ipv_cons, ipv_ext (p := r) (q := r') (fun k => h (k + 1)), h0]
theorem ipv_strip (p : List Int) (x : R) : ipv (strip p) x = ipv p x := ipv_ext (strip_ic p) x
theorem ipv_map (c : Int) (x : R) : ∀ p : List Int, ipv (p.map (· * c)) x = ipv p x * c
  | [] => by
    show (0 : R) = 0 * _
    grind
  | a :: r => by
    show ipv ((a * c) :: r.map (· * c)) x = _
    rw [ipv_cons, ipv_cons, ipv_map c x r, int_mul]
    grind
theorem ipv_set (x : R) (v : Int) : ∀ (r : List Int) (j : Nat), j < r.length → ipv (r.set j (ic r j + v)) x = ipv r x + (v : R) * x ^ j
  | [], j, h => by simp at h
  | c :: r, 0, _ => by
    show ipv ((c + v) :: r) x = _
    rw [ipv_cons, ipv_cons, int_add]
    grind
  | c :: r, j + 1, h => by
    have e := ipv_set x v r j (by simpa using h)
    show ipv (c :: r.set j (ic r j + v)) x = _
    rw [ipv_cons, ipv_cons, e]
    grind
theorem ipv_subAt (x : R) (m : Int) : ∀ (cs : List Int) (j : Nat) (r : List Int), j + cs.length ≤ r.length → ipv (subAt m j cs r) x = ipv r x - (m : R) * x ^ j * ipv cs x
  | [], j, r, _ => by
    show ipv r x = ipv r x - (m : R) * x ^ j * 0
    grind
  | c :: cs, j, r, h => by
    have h : j + (cs.length + 1) ≤ r.length := h
    show ipv (subAt m (j + 1) cs (r.set j (ic r j - m * c))) x = _
    rw [ipv_subAt x m cs (j + 1) _ (by simp; omega), show ic r j - m * c = ic r j + -(m * c) by omega, ipv_set x _ r j (by omega), ipv_cons, int_neg, int_mul]
    grind
/-- x^k times m -/
def mono : Nat → R → List R
  | 0, m => [m]
  | k + 1, m => 0 :: mono k m
theorem pv_mono (x m : R) : ∀ k, pv (mono k m) x = m * x ^ k
  | 0 => by
    show m + x * 0 = _
    grind
  | k + 1 => by
    show 0 + x * pv (mono k m) x = _
    rw [pv_mono x m k]
    grind
theorem divLoop_ipv {q : List Int} {l : Int} {d : Nat} (hq : q.length = d + 1) : ∀ (n : Nat) (r : List Int), n + d ≤ r.length → ∃ w : List R, ∀ x, ipv (divLoop q l n r) x = ipv r x - pv w x * ipv q x
  | 0, r, _ => ⟨[], fun x => by
    show ipv r x = ipv r x - 0 * ipv q x
    grind⟩
  | n + 1, r, h => by
    obtain ⟨w, hw⟩ := divLoop_ipv (l := l) hq n (divStep q l n r) (by rw [divStep_len]; omega)
    obtain ⟨m, hm⟩ : ∃ m, ((r[n + (q.length - 1)]?).getD 0).fdiv l = m := ⟨_, rfl⟩
    refine ⟨padd w (mono n (m : R)), fun x => ?_⟩
    show ipv (divLoop q l n (divStep q l n r)) x = _
    rw [hw]
    have e : ipv (divStep q l n r) x = ipv r x - (m : R) * x ^ n * ipv q x := by
      unfold divStep
      rw [hm]
      exact ipv_subAt x m q n r (by omega)
    rw [e, pv_padd, pv_mono]
    grind
theorem rst_ipv {p q : List Int} {l : Int} (hl : q.getLast? = some l) (hle : q.length ≤ p.length) : ∃ w : List R, ∀ x, ipv (rst p q l) x = ipv p x * ((aint l ^ (p.length - q.length + 1) : Int) : R) - pv w x * ipv q x := by
  obtain ⟨d, hd, hc⟩ := last_ic hl
  obtain ⟨w, hw⟩ := divLoop_ipv (l := l) hd (p.length - q.length + 1) (p.map (· * aint l ^ (p.length - q.length + 1))) (by simp; omega)
  refine ⟨w, fun x => ?_⟩
  unfold rst
  rw [hw, ipv_map]
theorem aint_pow_ne {l : Int} (h : l ≠ 0) (n : Nat) : aint l ^ n ≠ 0 := by
  have ha : aint l ≠ 0 := by unfold aint; split <;> omega
  exact Int.pow_ne_zero ha
theorem dvB_sound {p q : List Int} {l : Int} (hl : q.getLast? = some l) (h0 : l ≠ 0) (h : dvB p q l = true) (x : R) (hx : ipv q x = 0) : ipv p x = 0 := by
  unfold dvB at h
  split at h
  · rw [of_decide_eq_true h]
    rfl
  · have h := of_decide_eq_true h
    obtain ⟨w, hw⟩ := rst_ipv hl (p := p) (by omega)
    have e := hw x
    rw [← ipv_strip, h, ipv_nil, hx] at e
    rcases mul_zero_or (show ipv p x * ((aint l ^ (p.length - q.length + 1) : Int) : R) = 0 by grind) with z | z
    · exact z
    · exact absurd z (int_ne.mpr (aint_pow_ne h0 _))
theorem dvB_full {p q : List Int} {l : Int} (hl : q.getLast? = some l) (h0 : l ≠ 0) (hle : q.length ≤ p.length) (g : List R) (h : ∀ x, 0 < x → ipv p x = pv g x * ipv q x) : dvB p q l = true := by
  unfold dvB
  rw [if_neg (by omega)]
  refine decide_eq_true (strip_nil ?_)
  obtain ⟨w, hw⟩ := rst_ipv hl hle
  obtain ⟨d, hd, hc⟩ := last_ic hl
  have low := rst_low hl h0 hle
  have := low_mul (p := ri (rst p q l)) (h := padd (psm ((aint l ^ (p.length - q.length + 1) : Int) : R) g) (psm (-1) w)) (q := ri q) (n := d) (by rw [ri_len, hd]) (by rw [coef_ri, hc]; exact int_ne.mpr h0) (fun k hk => by rw [coef_ri, low k (by omega)]; rfl) fun x hx => by
    have e1 := hw x
    have e2 := h x hx
    rw [pv_padd, pv_psm, pv_psm]
    show ipv (rst p q l) x = _ * ipv q x
    rw [e1, e2]
    grind
  intro k
  have := this k
  rw [coef_ri] at this
  exact int_inj.mp this
/-! ### at a fraction -/
theorem th_pos (t : Int) {b : Int} (hb : 0 < b) : ∀ p, 0 < (th t b p).2
  | [] => by show (0 : Int) < 1; omega
  | c :: r => Int.mul_pos (th_pos t hb r) hb
theorem th_ipv {t b : Int} {x : R} (hx : (b : R) * x = (t : R)) : ∀ p, ((th t b p).1 : R) * (b : R) = ((th t b p).2 : R) * ipv p x
  | [] => by
    show ((0 : Int) : R) * (b : R) = ((1 : Int) : R) * 0
    rw [int_zero]
    grind
  | c :: r => by
    have ih := th_ipv hx r
    show (((th t b r).1 * t + c * (th t b r).2 : Int) : R) * (b : R) = (((th t b r).2 * b : Int) : R) * ipv (c :: r) x
    rw [ipv_cons, int_add, int_mul, int_mul, int_mul]
    grind
open Classical in
def rsg (x : R) : Int := if x < 0 then -1 else if 0 < x then 1 else 0
theorem rsg_pos {x : R} (h : 0 < x) : rsg x = 1 := by
  unfold rsg
  rw [if_neg (by grind), if_pos h]
theorem rsg_neg {x : R} (h : x < 0) : rsg x = -1 := if_pos h
theorem rsg_zero : rsg 0 = 0 := by
  unfold rsg
  rw [if_neg (by grind), if_neg (by grind)]
theorem rsg_mul {c : R} (h : 0 < c) (x : R) : rsg (c * x) = rsg x := by
  by_cases p : 0 < x
  · rw [rsg_pos p, rsg_pos (mul_pos h p)]
  · by_cases n : x < 0
    · rw [rsg_neg n, rsg_neg (by have := mul_pos h (show 0 < -x by grind); grind)]
    · have : x = 0 := by grind
      rw [this, show c * 0 = 0 by grind]
theorem sgn_int (a b : Int) : sgn a b = rsg ((a : R) - (b : R)) := by
  unfold sgn
  by_cases h : a < b
  · rw [if_pos h, rsg_neg (by have := int_lt.mpr h; grind)]
  · rw [if_neg h]
    by_cases k : b < a
    · rw [if_pos k, rsg_pos (by have := int_lt.mpr k; grind)]
    · rw [if_neg k, show a = b by omega, show (b : R) - (b : R) = 0 by grind, rsg_zero]
theorem sgn_th {t b : Int} {x : R} (hb : 0 < b) (hx : (b : R) * x = (t : R)) (p : List Int) : sgn (th t b p).1 0 = rsg (ipv p x) := by
  rw [sgn_int, int_zero]
  have h := th_ipv hx p
  have h1 : (0 : R) < (b : R) := by
    have := int_lt.mpr hb
    rwa [int_zero] at this
  have h2 : (0 : R) < ((th t b p).2 : R) := by
    have := int_lt.mpr (th_pos t hb p)
    rwa [int_zero] at this
  rw [show ((th t b p).1 : R) - 0 = ((th t b p).1 : R) by grind, ← rsg_mul h1, ← rsg_mul h2 (ipv p x), ← h, show (b : R) * ((th t b p).1 : R) = ((th t b p).1 : R) * (b : R) by grind]
/-- the fraction t / b -/
def frac (t b : Int) : R := rat ((t : Rat) / (b : Rat))
theorem frac_eq {t b : Int} (hb : 0 < b) : (b : R) * frac t b = (t : R) := by
  unfold frac
  rw [int_rat, int_rat, ← rat_mul, rat_inj]
  have : (b : Rat) ≠ 0 := by exact_mod_cast (show b ≠ 0 by omega)
  exact mul_div_c this
theorem frac_cmp {t b t' b' : Int} (hb : 0 < b) (hb' : 0 < b') : sgn (t * b') (t' * b) = rsg (frac t b - frac t' b') := by
  rw [sgn_int, int_mul, int_mul]
  have h1 := frac_eq (t := t) hb
  have h2 := frac_eq (t := t') hb'
  have p1 : (0 : R) < (b : R) := by
    have := int_lt.mpr hb
    rwa [int_zero] at this
  have p2 : (0 : R) < (b' : R) := by
    have := int_lt.mpr hb'
    rwa [int_zero] at this
  rw [← rsg_mul (mul_pos p1 p2) (frac t b - frac t' b')]
  congr 1
  grind
theorem rsg_le {x : R} : rsg x ≤ 0 ↔ x ≤ 0 := by
  unfold rsg
  split
  · constructor <;> intro _
    · grind
    · omega
  · split
    · constructor <;> intro h
      · omega
      · grind
    · constructor <;> intro _
      · grind
      · omega
theorem rsg_ge {x : R} : 0 ≤ rsg x ↔ 0 ≤ x := by
  unfold rsg
  split
  · constructor <;> intro h
    · omega
    · grind
  · split
    · constructor <;> intro _
      · grind
      · omega
    · constructor <;> intro _
      · grind
      · omega
theorem rsg_eq0 {x : R} : rsg x = 0 ↔ x = 0 := by
  unfold rsg
  split
  · constructor <;> intro h
    · omega
    · grind
  · split
    · constructor <;> intro h
      · omega
      · grind
    · constructor <;> intro _
      · grind
      · rfl
/-- another sign at the end: a root between -/
theorem root_between {p : List Int} {t b t' b' : Int} (hl : frac t b < frac t' b') (h1 : ipv p (frac t b) ≠ 0) (h2 : rsg (ipv p (frac t' b')) ≠ rsg (ipv p (frac t b))) : ∃ x, frac t b < x ∧ x ≤ frac t' b' ∧ ipv p x = 0 := by
  by_cases z : ipv p (frac t' b') = 0
  · exact ⟨_, hl, by grind, z⟩
  have hlr : (t : Rat) / (b : Rat) < (t' : Rat) / (b' : Rat) := rat_lt.mp hl
  by_cases n : ipv p (frac t b) < 0
  · have h3 : 0 < ipv p (frac t' b') := by
      by_cases w : 0 < ipv p (frac t' b')
      · exact w
      · rw [rsg_neg n, rsg_neg (show ipv p (frac t' b') < 0 by grind)] at h2
        exact absurd rfl h2
    obtain ⟨x, x1, x2, hx⟩ := ivt_rat (f := ipv p) hlr (fun x _ _ => cont_pv (ri p) x) (by show ipv p (frac t b) ≤ 0; grind) h3
    refine ⟨x, ?_, x2, hx⟩
    by_cases w : x = frac t b
    · rw [w] at hx
      exact absurd hx h1
    · have : frac t b ≤ x := x1
      grind
  · have h3 : 0 < -ipv p (frac t' b') := by
      by_cases w : ipv p (frac t' b') < 0
      · grind
      · rw [rsg_pos (show 0 < ipv p (frac t b) by grind), rsg_pos (show 0 < ipv p (frac t' b') by grind)] at h2
        exact absurd rfl h2
    obtain ⟨x, x1, x2, hx⟩ := ivt_rat (f := fun y => -ipv p y) hlr (fun x _ _ => cont_neg (cont_pv (ri p) x)) (by show -ipv p (frac t b) ≤ 0; grind) h3
    have hx : -ipv p x = 0 := hx
    refine ⟨x, ?_, x2, by grind⟩
    by_cases w : x = frac t b
    · rw [w] at hx
      exact absurd (show ipv p (frac t b) = 0 by grind) h1
    · have : frac t b ≤ x := x1
      grind
end
end Pd
set_option Elab.async false
set_option linter.all false
set_option maxRecDepth 100000
set_option maxHeartbeats 4000000
/-! St: roots of polynomials, slopes, rows whose signs change (Sturm). -/
namespace Pd
open Rl
noncomputable section
/-! ### a root taken out -/
def qt : List R → R → List R
  | [], _ => []
  | [_], _ => []
  | _ :: d :: r, a => pv (d :: r) a :: qt (d :: r) a
theorem pv_qt (a x : R) : ∀ p : List R, pv p x = pv p a + (x - a) * pv (qt p a) x
  | [] => by
    show (0 : R) = 0 + (x - a) * 0
    grind
  | [c] => by
    show c + x * 0 = c + a * 0 + (x - a) * 0
    grind
  | c :: d :: r => by
    have ih := pv_qt a x (d :: r)
    show c + x * pv (d :: r) x = c + a * pv (d :: r) a + (x - a) * (pv (d :: r) a + x * pv (qt (d :: r) a) x)
    rw [ih]
    grind
theorem qt_len (a : R) : ∀ p : List R, (qt p a).length = p.length - 1
  | [] => rfl
  | [_] => rfl
  | _ :: d :: r => by
    show (qt (d :: r) a).length + 1 = _
    rw [qt_len a (d :: r)]
    simp
/-- the slope's worth -/
def dpv : List R → R → R
  | [], _ => 0
  | _ :: r, x => pv r x + x * dpv r x
theorem dpv_qt (a : R) : ∀ p : List R, dpv p a = pv (qt p a) a
  | [] => rfl
  | [c] => by
    show (0 : R) + a * 0 = 0
    grind
  | c :: d :: r => by
    have ih := dpv_qt a (d :: r)
    show pv (d :: r) a + a * dpv (d :: r) a = pv (d :: r) a + a * pv (qt (d :: r) a) a
    rw [ih]
/-- the roots of a polynomial that is not nought -/
theorem root_list : ∀ (n : Nat) (p : List R), p.length ≤ n → (∃ x, pv p x ≠ 0) → ∃ L : List R, L.Nodup ∧ ∀ x, pv p x = 0 ↔ x ∈ L := by
  intro n
  induction n with
  | zero =>
    intro p h ⟨x, hx⟩
    have : p = [] := List.eq_nil_of_length_eq_zero (by omega)
    subst this
    exact absurd rfl hx
  | succ n ih =>
    intro p h ⟨x, hx⟩
    by_cases hr : ∃ a, pv p a = 0
    · obtain ⟨a, ha⟩ := hr
      have e : ∀ y, pv p y = (y - a) * pv (qt p a) y := fun y => by
        have := pv_qt a y p
        grind
      obtain ⟨L, hL, hm⟩ := ih (qt p a) (by rw [qt_len]; omega) ⟨x, fun z => hx (by rw [e, z]; grind)⟩
      by_cases ham : a ∈ L
      · refine ⟨L, hL, fun y => ?_⟩
        rw [← hm]
        constructor
        · intro z
          rw [e] at z
          rcases mul_zero_or z with w | w
          · have : y = a := by grind
            rw [this]
            exact (hm a).mpr ham
          · exact w
        · intro z
          rw [e, z]
          grind
      · refine ⟨a :: L, List.nodup_cons.mpr ⟨ham, hL⟩, fun y => ?_⟩
        rw [List.mem_cons, ← hm]
        constructor
        · intro z
          rw [e] at z
          rcases mul_zero_or z with w | w
          · exact .inl (by grind)
          · exact .inr w
        · rintro (z | z)
          · rw [z, ha]
          · rw [e, z]
            grind
    · refine ⟨[], List.nodup_nil, fun y => ⟨fun z => absurd ⟨y, z⟩ hr, fun z => by simp at z⟩⟩
/-! ### slopes of whole polynomials -/
def slF : Int → List Int → List Int
  | _, [] => []
  | k, c :: r => k * c :: slF (k + 1) r
/-- the derivative -/
def slp (p : List Int) : List Int := slF 1 p.tail
theorem ipv_slF (x : R) : ∀ (r : List Int) (k : Int), ipv (slF k r) x = (k : R) * ipv r x + x * dpv (ri r) x
  | [], k => by
    show (0 : R) = (k : R) * 0 + x * 0
    grind
  | c :: r, k => by
    show ipv (k * c :: slF (k + 1) r) x = _
    rw [ipv_cons, ipv_cons, ipv_slF x r (k + 1), int_mul, int_add, int_one]
    show _ = (k : R) * ((c : R) + x * ipv r x) + x * (ipv r x + x * dpv (ri r) x)
    grind
theorem ipv_slp (p : List Int) (x : R) : ipv (slp p) x = dpv (ri p) x := by
  cases p with
  | nil => rfl
  | cons c r =>
    show ipv (slF 1 r) x = pv (ri r) x + x * dpv (ri r) x
    rw [ipv_slF, int_one]
    show (1 : R) * pv (ri r) x + _ = _
    grind
/-! ### changes of sign -/
/-- changes along a row of signs behind a last one -/
def chG : Int → List Int → Int
  | _, [] => 0
  | l, s :: r => if s = 0 then chG l r else (if l = -s then 1 else 0) + chG s r
inductive Adj : List Int → List Int → Prop where
  | one {a : Int} (h : a ≠ 0) : Adj [a] [a]
  | cons {a b : Int} {s s' : List Int} (h : a ≠ 0) (t : Adj (b :: s) (b :: s')) : Adj (a :: b :: s) (a :: b :: s')
  | skip {a b : Int} {s s' : List Int} (h : a = 1 ∨ a = -1) (hb : b = 0 ∨ b = 1 ∨ b = -1) (t : Adj (-a :: s) (-a :: s')) : Adj (a :: 0 :: -a :: s) (a :: b :: -a :: s')
theorem chG_adj {s s' : List Int} (h : Adj s s') : ∀ l, chG l s = chG l s' := by
  induction h with
  | one h => intro l; rfl
  | @cons a b s s' h t ih =>
    intro l
    unfold chG
    rw [if_neg h, if_neg h, ih]
  | @skip a b s s' h hb t ih =>
    intro l
    have e1 := ih a
    have e2 := ih (-a)
    have ha : a ≠ 0 := by omega
    have hna : -a ≠ 0 := by omega
    rw [show chG a (-a :: s) = 1 + chG (-a) s by
      rw [chG, if_neg hna, if_pos (show a = - -a by omega)]] at e1
    rw [show chG a (-a :: s') = 1 + chG (-a) s' by
      rw [chG, if_neg hna, if_pos (show a = - -a by omega)]] at e1
    have l1 : chG a (0 :: -a :: s) = 1 + chG (-a) s := by
      rw [chG, if_pos rfl, chG, if_neg hna, if_pos (show a = - -a by omega)]
    have l2 : chG a (b :: -a :: s') = 1 + chG (-a) s' := by
      rcases h with rfl | rfl
      · rcases hb with rfl | rfl | rfl
        · rw [chG, if_pos rfl, chG, if_neg hna, if_pos (by omega)]
        · rw [chG, if_neg (by omega), if_neg (by omega), chG, if_neg hna, if_pos (by omega)]
          omega
        · rw [chG, if_neg (by omega), if_pos (by omega), chG, if_neg hna, if_neg (by omega)]
          omega
      · rcases hb with rfl | rfl | rfl
        · rw [chG, if_pos rfl, chG, if_neg hna, if_pos (by omega)]
        · rw [chG, if_neg (by omega), if_pos (by omega)]
          show 1 + chG 1 (1 :: s') = _
          rw [chG, if_neg (by omega), if_neg (by omega)]
          show 1 + (0 + chG 1 s') = 1 + chG 1 s'
          omega
        · rw [chG, if_neg (by omega), if_neg (by omega), chG, if_neg hna, if_pos (by omega)]
          omega
    rw [show chG l (a :: 0 :: -a :: s) = (if l = -a then 1 else 0) + chG a (0 :: -a :: s) by rw [chG, if_neg ha]]
    rw [show chG l (a :: b :: -a :: s') = (if l = -a then 1 else 0) + chG a (b :: -a :: s') by rw [chG, if_neg ha]]
    rw [l1, l2]
    omega
/-- where the one between is nought, its neighbours have unlike signs -/
def Opp (A B C : List Int) : Prop := ∀ x, ipv B x = 0 → rsg (ipv A x) = -rsg (ipv C x)
def Chain : List (List Int) → Prop
  | A :: B :: C :: r => Opp A B C ∧ Chain (B :: C :: r)
  | _ => True
theorem chain_tail {A : List Int} {r : List (List Int)} (h : Chain (A :: r)) : Chain r := by
  match r, h with
  | [], _ => trivial
  | [_], _ => trivial
  | _ :: _ :: _, h => exact h.2
/-- the signs of a row at x -/
def sgs (row : List (List Int)) (x : R) : List Int := row.map fun P => rsg (ipv P x)
def NoEnd (row : List (List Int)) : Prop := ∃ P, row.getLast? = some P ∧ ∀ x, ipv P x ≠ 0
theorem noEnd_tail {A B : List Int} {r : List (List Int)} (h : NoEnd (A :: B :: r)) : NoEnd (B :: r) := by
  obtain ⟨P, h1, h2⟩ := h
  refine ⟨P, ?_, h2⟩
  rw [List.getLast?_cons_cons] at h1
  exact h1
theorem rsg3 (x : R) : rsg x = 0 ∨ rsg x = 1 ∨ rsg x = -1 := by
  unfold rsg
  split
  · exact .inr (.inr rfl)
  · split
    · exact .inr (.inl rfl)
    · exact .inl rfl
/-- near x the signs that are not nought at x stand -/
def Near (row : List (List Int)) (x y : R) : Prop := ∀ P ∈ row, ipv P x ≠ 0 → rsg (ipv P y) = rsg (ipv P x)
theorem near_ex : ∀ (row : List (List Int)) (x : R), ∃ d : R, 0 < d ∧ ∀ y, ab (y - x) < d → Near row x y
  | [], x => ⟨1, zero_lt_one', fun y _ P hP => by simp at hP⟩
  | A :: r, x => by
    obtain ⟨d, hd, h⟩ := near_ex r x
    have key : ∃ e : R, 0 < e ∧ ∀ y, ab (y - x) < e → ipv A x ≠ 0 → rsg (ipv A y) = rsg (ipv A x) := by
      by_cases p : 0 < ipv A x
      · obtain ⟨e, he, k⟩ := cont_sign (f := ipv A) (cont_pv (ri A) x) p
        exact ⟨e, he, fun y hy _ => by rw [rsg_pos p, rsg_pos (k y hy)]⟩
      · by_cases q : ipv A x < 0
        · obtain ⟨e, he, k⟩ := cont_sign (f := fun y => -ipv A y) (cont_neg (cont_pv (ri A) x)) (show 0 < -ipv A x by grind)
          refine ⟨e, he, fun y hy _ => ?_⟩
          have : 0 < -ipv A y := k y hy
          rw [rsg_neg q, rsg_neg (show ipv A y < 0 by grind)]
        · exact ⟨1, zero_lt_one', fun y _ z => absurd (show ipv A x = 0 by grind) z⟩
    obtain ⟨e, he, k⟩ := key
    by_cases c : d ≤ e
    · refine ⟨d, hd, fun y hy P hP => ?_⟩
      rcases List.mem_cons.mp hP with rfl | hP
      · exact k y (by grind)
      · exact h y hy P hP
    · refine ⟨e, he, fun y hy P hP => ?_⟩
      rcases List.mem_cons.mp hP with rfl | hP
      · exact k y hy
      · exact h y (by grind) P hP
theorem near_adj {x y : R} : ∀ (n : Nat) (A : List Int) (r : List (List Int)), r.length ≤ n → Chain (A :: r) → NoEnd (A :: r) → ipv A x ≠ 0 → Near (A :: r) x y → Adj (sgs (A :: r) x) (sgs (A :: r) y) := by
  intro n
  induction n with
  | zero =>
    intro A r hl _ _ h0 hn
    have : r = [] := List.eq_nil_of_length_eq_zero (by omega)
    subst this
    have e := hn A (List.mem_cons_self ..) h0
    show Adj [rsg (ipv A x)] [rsg (ipv A y)]
    rw [e]
    exact .one fun z => h0 (rsg_eq0.mp z)
  | succ n ih =>
    intro A r hl hc he h0 hn
    have e := hn A (List.mem_cons_self ..) h0
    have a0 : rsg (ipv A x) ≠ 0 := fun z => h0 (rsg_eq0.mp z)
    cases r with
    | nil =>
      show Adj [rsg (ipv A x)] [rsg (ipv A y)]
      rw [e]
      exact .one a0
    | cons B r =>
      by_cases hB : ipv B x = 0
      · cases r with
        | nil =>
          obtain ⟨P, h1, h2⟩ := he
          have : P = B := by simpa using h1.symm
          subst this
          exact absurd hB (h2 x)
        | cons C r =>
          have ho := hc.1 x hB
          have hC : ipv C x ≠ 0 := fun z => by
            rw [z, rsg_zero] at ho
            exact a0 ho
          have t := ih C r (by simp at hl; omega) (chain_tail hc.2) (noEnd_tail (noEnd_tail he)) hC fun P hP => hn P (List.mem_cons_of_mem _ (List.mem_cons_of_mem _ hP))
          have eC := hn C (List.mem_cons_of_mem _ (List.mem_cons_of_mem _ (List.mem_cons_self ..))) hC
          have sC : rsg (ipv C x) = -rsg (ipv A x) := by omega
          show Adj (rsg (ipv A x) :: rsg (ipv B x) :: rsg (ipv C x) :: sgs r x) (rsg (ipv A y) :: rsg (ipv B y) :: rsg (ipv C y) :: sgs r y)
          have t : Adj (rsg (ipv C x) :: sgs r x) (rsg (ipv C y) :: sgs r y) := t
          rw [e, eC, sC, hB, rsg_zero]
          rw [eC, sC] at t
          refine .skip ?_ (rsg3 _) t
          rcases rsg3 (ipv A x) with z | z | z
          · exact absurd z a0
          · exact .inl z
          · exact .inr z
      · have t := ih B r (by simp at hl; omega) (chain_tail hc) (noEnd_tail he) hB fun P hP => hn P (List.mem_cons_of_mem _ hP)
        have eB := hn B (List.mem_cons_of_mem _ (List.mem_cons_self ..)) hB
        show Adj (rsg (ipv A x) :: rsg (ipv B x) :: sgs r x) (rsg (ipv A y) :: rsg (ipv B y) :: sgs r y)
        have t : Adj (rsg (ipv B x) :: sgs r x) (rsg (ipv B y) :: sgs r y) := t
        rw [eB] at t
        rw [e, eB]
        exact .cons a0 t
/-- two neighbours nought: the end is nought -/
theorem two_zero {x : R} : ∀ (r : List (List Int)) (A B : List Int), Chain (A :: B :: r) → NoEnd (A :: B :: r) → ipv A x = 0 → ipv B x = 0 → False
  | [], A, B, _, he, _, hB => by
    obtain ⟨P, h1, h2⟩ := he
    have : P = B := by simpa using h1.symm
    subst this
    exact h2 x hB
  | C :: r, A, B, hc, he, hA, hB => by
    have ho := hc.1 x hB
    rw [hA, rsg_zero] at ho
    exact two_zero r B C hc.2 (noEnd_tail he) hB (rsg_eq0.mp (by omega))
/-! ### the first and its slope -/
/-- at a root the second one has the sign of the slope -/
def Slo (A B : List Int) : Prop := ∀ x, rsg (ipv B x) = rsg (ipv (slp A) x)
open Classical in
theorem slo_near {A B : List Int} (h : Slo A B) {x : R} (hA : ipv A x = 0) (hB : ipv B x ≠ 0) : ∃ d : R, 0 < d ∧ ∀ y, ab (y - x) < d → y ≠ x → rsg (ipv A y) = (if x < y then 1 else -1) * rsg (ipv B x) := by
  have hs := h x
  rw [ipv_slp, dpv_qt] at hs
  have e : ∀ y, ipv A y = (y - x) * pv (qt (ri A) x) y := fun y => by
    have := pv_qt x y (ri A)
    have h2 : pv (ri A) x = 0 := hA
    show pv (ri A) y = _
    grind
  have hq : pv (qt (ri A) x) x ≠ 0 := fun z => by
    rw [z, rsg_zero] at hs
    exact hB (rsg_eq0.mp hs)
  have gen : ∀ y : R, y ≠ x → rsg (pv (qt (ri A) x) y) = rsg (pv (qt (ri A) x) x) → rsg (ipv A y) = (if x < y then 1 else -1) * rsg (ipv B x) := fun y hy hs2 => by
    rw [e, hs, ← hs2]
    by_cases c : x < y
    · rw [if_pos c, rsg_mul (show 0 < y - x by grind)]
      omega
    · rw [if_neg c]
      have hn : 0 < x - y := by grind
      rw [show (y - x) * pv (qt (ri A) x) y = (x - y) * (-pv (qt (ri A) x) y) by grind, rsg_mul hn]
      rcases rsg3 (pv (qt (ri A) x) y) with z | z | z
      · rw [z, rsg_eq0.mp z, show -(0 : R) = 0 by grind, rsg_zero]
        rfl
      · have : 0 < pv (qt (ri A) x) y := by
          by_cases w : 0 < pv (qt (ri A) x) y
          · exact w
          · have := rsg_le.mpr (show pv (qt (ri A) x) y ≤ 0 by grind)
            omega
        rw [z, rsg_neg (show -pv (qt (ri A) x) y < 0 by grind)]
        rfl
      · have : pv (qt (ri A) x) y < 0 := by
          by_cases w : pv (qt (ri A) x) y < 0
          · exact w
          · have := rsg_ge.mpr (show 0 ≤ pv (qt (ri A) x) y by grind)
            omega
        rw [z, rsg_pos (show 0 < -pv (qt (ri A) x) y by grind)]
        rfl
  by_cases p : 0 < pv (qt (ri A) x) x
  · obtain ⟨d, hd, k⟩ := cont_sign (cont_pv (qt (ri A) x) x) p
    exact ⟨d, hd, fun y hy hne => gen y hne (by rw [rsg_pos p, rsg_pos (k y hy)])⟩
  · have q : pv (qt (ri A) x) x < 0 := by grind
    obtain ⟨d, hd, k⟩ := cont_sign (f := fun y => -pv (qt (ri A) x) y) (cont_neg (cont_pv (qt (ri A) x) x)) (show 0 < -pv (qt (ri A) x) x by grind)
    refine ⟨d, hd, fun y hy hne => gen y hne ?_⟩
    have : 0 < -pv (qt (ri A) x) y := k y hy
    rw [rsg_neg q, rsg_neg (show pv (qt (ri A) x) y < 0 by grind)]
/-- the changes of a row at x -/
def chs (row : List (List Int)) (x : R) : Int := chG 0 (sgs row x)
structure Sturm (A B : List Int) (r : List (List Int)) : Prop where
  c : Chain (A :: B :: r)
  e : NoEnd (A :: B :: r)
  s : Slo A B
theorem ab_half {x y d : R} (h : ab (y - x) < d) : y - x < d ∧ x - y < d := by
  have := ab_up (y - x)
  have := ab_dn (y - x)
  constructor <;> grind
open Classical in
theorem chs_near {A B : List Int} {r : List (List Int)} (S : Sturm A B r) (x : R) : ∃ d : R, 0 < d ∧ ∀ y, ab (y - x) < d → chs (A :: B :: r) y = chs (A :: B :: r) x + (if ipv A x = 0 ∧ y < x then 1 else 0) := by
  obtain ⟨d, hd, hn⟩ := near_ex (A :: B :: r) x
  by_cases hA : ipv A x = 0
  · have hB : ipv B x ≠ 0 := fun z => two_zero r A B S.c S.e hA z
    obtain ⟨e, he, hs⟩ := slo_near S.s hA hB
    have key : ∀ y, ab (y - x) < d → ab (y - x) < e → chs (A :: B :: r) y = chs (A :: B :: r) x + (if ipv A x = 0 ∧ y < x then 1 else 0) := fun y h1 h2 => by
      have ny := hn y h1
      have t := near_adj (y := y) r.length B r (Nat.le_refl _) (chain_tail S.c) (noEnd_tail S.e) hB fun P hP => ny P (List.mem_cons_of_mem _ hP)
      have eB := ny B (List.mem_cons_of_mem _ (List.mem_cons_self ..)) hB
      have b0 : rsg (ipv B x) ≠ 0 := fun z => hB (rsg_eq0.mp z)
      have c0 := chG_adj t
      have e1 : chs (A :: B :: r) x = chG 0 (sgs (B :: r) x) := by
        show chG 0 (rsg (ipv A x) :: sgs (B :: r) x) = _
        rw [hA, rsg_zero, chG, if_pos rfl]
      have hx : ∀ l, chG l (sgs (B :: r) y) = (if l = -rsg (ipv B x) then 1 else 0) + chG (rsg (ipv B x)) (sgs r y) := fun l => by
        show chG l (rsg (ipv B y) :: sgs r y) = _
        rw [eB, chG, if_neg b0]
      by_cases hyx : y = x
      · subst hyx
        rw [if_neg (by grind)]
        omega
      have hsy := hs y h2 hyx
      have e2 : chs (A :: B :: r) y = chG (rsg (ipv A y)) (sgs (B :: r) y) := by
        show chG 0 (rsg (ipv A y) :: sgs (B :: r) y) = _
        have : rsg (ipv A y) ≠ 0 := by
          rw [hsy]
          split <;> omega
        rw [chG, if_neg this, if_neg (by omega)]
        omega
      rw [e2, e1, c0, hx, hx, hsy]
      by_cases c : x < y
      · rw [if_pos c, if_neg (show ¬(ipv A x = 0 ∧ y < x) by grind), if_neg (by omega), if_neg (by omega)]
        omega
      · rw [if_neg c, if_pos (show ipv A x = 0 ∧ y < x from ⟨hA, by grind⟩), if_pos (by omega), if_neg (by omega)]
        omega
    by_cases c : d ≤ e
    · exact ⟨d, hd, fun y hy => key y hy (by grind)⟩
    · exact ⟨e, he, fun y hy => key y (by grind) hy⟩
  · refine ⟨d, hd, fun y hy => ?_⟩
    have t := near_adj (y := y) _ A (B :: r) (Nat.le_refl _) S.c S.e hA (hn y hy)
    rw [if_neg (fun z => hA z.1)]
    have := chG_adj t 0
    show chG 0 _ = chG 0 _ + 0
    omega
/-! ### how many roots -/
open Classical in
/-- how many of a row are no greater than x -/
def cnt (L : List R) (x : R) : Int := ((L.filter fun z => decide (z ≤ x)).length : Int)
open Classical in
theorem cnt_near (L : List R) (hL : L.Nodup) (x : R) : ∃ d : R, 0 < d ∧ ∀ y, ab (y - x) < d → cnt L y = cnt L x - (if x ∈ L ∧ y < x then 1 else 0) := by
  induction L with
  | nil => exact ⟨1, zero_lt_one', fun y _ => by rw [if_neg (by simp)]; rfl⟩
  | cons z L ih =>
    obtain ⟨hz, hL2⟩ := List.nodup_cons.mp hL
    obtain ⟨d, hd, k⟩ := ih hL2
    have c1 : ∀ y, cnt (z :: L) y = (if z ≤ y then 1 else 0) + cnt L y := fun y => by
      unfold cnt
      by_cases h : z ≤ y
      · rw [List.filter_cons_of_pos (by simpa using h), if_pos h, List.length_cons]
        omega
      · rw [List.filter_cons_of_neg (by simpa using h), if_neg h]
        omega
    by_cases hzx : z = x
    · subst hzx
      refine ⟨d, hd, fun y hy => ?_⟩
      rw [c1, c1, k y hy, if_neg (show ¬(z ∈ L ∧ y < z) from fun w => hz w.1), if_pos (show z ≤ z by grind)]
      by_cases c : y < z
      · rw [if_neg (show ¬ z ≤ y by grind), if_pos ⟨List.mem_cons_self .., c⟩]
        omega
      · rw [if_pos (show z ≤ y by grind), if_neg (show ¬(z ∈ z :: L ∧ y < z) from fun w => c w.2)]
        omega
    · have hp : 0 < ab (z - x) := ab_pos (by grind)
      have key : ∀ y, ab (y - x) < d → ab (y - x) < ab (z - x) → cnt (z :: L) y = cnt (z :: L) x - (if x ∈ z :: L ∧ y < x then 1 else 0) := fun y h1 h2 => by
        have hm : (x ∈ z :: L ∧ y < x) ↔ (x ∈ L ∧ y < x) := by
          rw [List.mem_cons]
          constructor
          · rintro ⟨w | w, v⟩
            · exact absurd w.symm hzx
            · exact ⟨w, v⟩
          · exact fun w => ⟨.inr w.1, w.2⟩
        have hiff : (z ≤ y) ↔ (z ≤ x) := by
          have h3 := ab_up (y - x)
          have h4 := ab_dn (y - x)
          by_cases w : x ≤ z
          · rw [ab_of_nn (show 0 ≤ z - x by grind)] at h2
            constructor <;> intro _ <;> grind
          · have : ab (z - x) = x - z := by
              rw [← ab_neg, ab_of_nn (by grind)]
              grind
            rw [this] at h2
            constructor <;> intro _ <;> grind
        rw [c1, c1, k y h1]
        simp only [hm, hiff]
        omega
      by_cases c : d ≤ ab (z - x)
      · exact ⟨d, hd, fun y hy => key y hy (by grind)⟩
      · exact ⟨ab (z - x), hp, fun y hy => key y (by grind) hy⟩
/-- what does not change near each place does not change -/
theorem const_by {φ : R → Int} (h : ∀ x, ∃ d : R, 0 < d ∧ ∀ y, ab (y - x) < d → φ y = φ x) {l k : Rat} (hl : l < k) : φ (rat l) = φ (rat k) := by
  by_cases z : φ (rat k) = φ (rat l)
  · exact z.symm
  · exfalso
    obtain ⟨x, x1, x2, hx⟩ := cut (S := fun q => φ (rat q) = φ (rat l)) hl rfl z
    obtain ⟨d, hd, k⟩ := h x
    obtain ⟨q, q1, q2⟩ := between hd
    obtain ⟨a, b, s1, s2, a1, b1, w, _, _⟩ := hx q (rat_lt.mp q1)
    have w1 := rat_lt.mpr w
    rw [rat_sub] at w1
    have ea := k (rat a) (by
      rw [← ab_neg, ab_of_nn (by grind)]
      grind)
    have eb := k (rat b) (by
      rw [ab_of_nn (by grind)]
      grind)
    exact s2 (by rw [eb, ← ea, s1])
theorem not_nought {A B : List Int} {r : List (List Int)} (S : Sturm A B r) : ∃ x, pv (ri A) x ≠ 0 := by
  by_cases h : ∃ x, pv (ri A) x ≠ 0
  · exact h
  · exfalso
    have hz : ∀ x, pv (ri A) x = 0 := fun x => by
      by_cases z : pv (ri A) x = 0
      · exact z
      · exact absurd ⟨x, z⟩ h
    have hB : ipv B 0 = 0 := by
      have hs := S.s 0
      have hd : ipv (slp A) 0 = 0 := by
        rw [ipv_slp, dpv_qt]
        have e : ∀ y, 0 < y → pv (qt (ri A) 0) y = 0 := fun y hy => by
          have := pv_qt 0 y (ri A)
          rw [hz, hz] at this
          rcases mul_zero_or (show (y - 0) * pv (qt (ri A) 0) y = 0 by grind) with w | w
          · grind
          · exact w
        exact pv_zero _ (ident _ e) 0
      rw [hd, rsg_zero] at hs
      exact rsg_eq0.mp hs
    exact two_zero r A B S.c S.e (hz 0) hB
open Classical in
/-- Sturm: the changes at low less those at high are the roots above low and not above high -/
theorem sturm {A B : List Int} {r : List (List Int)} (S : Sturm A B r) : ∃ L : List R, L.Nodup ∧ (∀ x, ipv A x = 0 ↔ x ∈ L) ∧ ∀ {l h : Rat}, l < h → chs (A :: B :: r) (rat l) - chs (A :: B :: r) (rat h) = (((L.filter fun z => decide (rat l < z ∧ z ≤ rat h)).length : Nat) : Int) := by
  obtain ⟨L, hL, hm⟩ := root_list _ (ri A) (Nat.le_refl _) (not_nought S)
  refine ⟨L, hL, hm, fun {l h} hlt => ?_⟩
  have key := const_by (φ := fun x => chs (A :: B :: r) x + cnt L x) (fun x => by
    obtain ⟨d, hd, k⟩ := chs_near S x
    obtain ⟨e, he, k2⟩ := cnt_near L hL x
    have hx : ∀ y, ab (y - x) < d → ab (y - x) < e → chs (A :: B :: r) y + cnt L y = chs (A :: B :: r) x + cnt L x := fun y h1 h2 => by
      rw [k y h1, k2 y h2]
      have : (ipv A x = 0 ∧ y < x) ↔ (x ∈ L ∧ y < x) := by
        rw [show ipv A x = pv (ri A) x from rfl, hm]
      simp only [this]
      omega
    by_cases c : d ≤ e
    · exact ⟨d, hd, fun y hy => hx y hy (by grind)⟩
    · exact ⟨e, he, fun y hy => hx y (by grind) hy⟩) hlt
  have hc : ∀ M : List R, cnt M (rat h) = cnt M (rat l) + (((M.filter fun z => decide (rat l < z ∧ z ≤ rat h)).length : Nat) : Int) := fun M => by
    have hlr := rat_lt.mpr hlt
    induction M with
    | nil => rfl
    | cons z M ih =>
      unfold cnt at ih ⊢
      by_cases c1 : z ≤ rat l
      · rw [List.filter_cons_of_pos (by simp; grind), List.filter_cons_of_pos (by simpa using c1), List.filter_cons_of_neg (by simp; grind), List.length_cons, List.length_cons]
        omega
      · by_cases c2 : z ≤ rat h
        · rw [List.filter_cons_of_pos (by simpa using c2), List.filter_cons_of_neg (by simpa using c1), List.filter_cons_of_pos (by simp; grind), List.length_cons, List.length_cons]
          omega
        · rw [List.filter_cons_of_neg (by simpa using c2), List.filter_cons_of_neg (by simpa using c1), List.filter_cons_of_neg (by simp; grind)]
          exact ih
  have := hc L
  have key : chs (A :: B :: r) (rat l) + cnt L (rat l) = chs (A :: B :: r) (rat h) + cnt L (rat h) := key
  omega
end
end Pd
set_option Elab.async false
set_option linter.all false
set_option maxRecDepth 100000
set_option maxHeartbeats 4000000
/-! Bt: how many bits a whole number has at most. -/
namespace Pd
open PySem
/-- at most k bits -/
def bt (k : Nat) (x : Int) : Prop := x.natAbs < 2 ^ k
theorem bt.mono {j k : Nat} {x : Int} (h : bt j x) (l : j ≤ k) : bt k x := Nat.lt_of_lt_of_le h (Nat.pow_le_pow_right (by omega) l)
theorem bt.mul {j k : Nat} {a b : Int} (h : bt j a) (l : bt k b) : bt (j + k) (a * b) := by
  show (a * b).natAbs < 2 ^ (j + k)
  rw [Int.natAbs_mul, Nat.pow_add]
  have h : a.natAbs < 2 ^ j := h
  have l : b.natAbs < 2 ^ k := l
  exact Nat.mul_lt_mul'' h l
theorem bt.add {k : Nat} {a b : Int} (h : bt k a) (l : bt k b) : bt (k + 1) (a + b) := by
  have h : a.natAbs < 2 ^ k := h
  have l : b.natAbs < 2 ^ k := l
  show (a + b).natAbs < 2 ^ (k + 1)
  rw [Nat.pow_succ]
  omega
theorem bt.neg {k : Nat} {a : Int} (h : bt k a) : bt k (-a) := by
  have h : a.natAbs < 2 ^ k := h
  show (-a).natAbs < 2 ^ k
  omega
theorem bt.sub {k : Nat} {a b : Int} (h : bt k a) (l : bt k b) : bt (k + 1) (a - b) := by
  rw [Int.sub_eq_add_neg]
  exact h.add l.neg
theorem bt.zero (k : Nat) : bt k 0 := Nat.pow_pos (by omega)
theorem bt.one {k : Nat} (h : 0 < k) : bt k 1 := by
  show 1 < 2 ^ k
  have := Nat.pow_le_pow_right (show 0 < 2 by omega) h
  omega
theorem bt.abs {k : Nat} {a : Int} (h : bt k a) : bt k (aint a) := by
  unfold aint
  split
  · exact h.neg
  · exact h
theorem bt.le {k : Nat} {a b : Int} (h : bt k a) (l : b.natAbs ≤ a.natAbs) : bt k b := Nat.lt_of_le_of_lt l h
theorem bt.pow {k : Nat} {a : Int} (h : bt k a) : ∀ n, bt (n * k + 1) (a ^ n)
  | 0 => by
    rw [Int.pow_zero]
    exact bt.one (by omega)
  | n + 1 => by
    rw [Int.pow_succ]
    have := (bt.pow h n).mul h
    rw [show (n + 1) * k + 1 = n * k + 1 + k by rw [Nat.succ_mul]; omega]
    exact this
theorem bt_of {x : Int} (k : Nat) (h1 : -(2 ^ k) < x) (h2 : x < 2 ^ k) : bt k x := by
  show x.natAbs < 2 ^ k
  have e : ((2 ^ k : Nat) : Int) = 2 ^ k := by exact_mod_cast rfl
  omega
theorem bt_le {x : Int} {k : Nat} (h : bt k x) : -(2 ^ k) < x ∧ x < 2 ^ k := by
  have h : x.natAbs < 2 ^ k := h
  have e : ((2 ^ k : Nat) : Int) = 2 ^ k := by exact_mod_cast rfl
  omega
theorem bt.bits {k : Nat} {x : Int} (h : bt k x) (hk : 0 < k) : Builtin.Int.intBits x ≤ k := by
  have h : x.natAbs < 2 ^ k := h
  unfold Builtin.Int.intBits
  split
  · omega
  · rename_i hx
    have hx : x.natAbs ≠ 0 := by
      intro z
      apply hx
      have : x = 0 := by omega
      subst this
      rfl
    have := (Nat.log2_lt hx).mpr h
    omega
theorem bt.mulOk {j k : Nat} {a b : Int} (h : bt j a) (l : bt k b) (s : j + k ≤ 100000000) : IntMulOk a b :=
  IntMulOk.of_le ((h.mono (Nat.le_succ j)).bits (by omega)) ((l.mono (Nat.le_succ k)).bits (by omega)) (by omega)
theorem bt.divOk {a b : Int} (h : bt 8900 b) : Builtin.divisionGoesByPylong a b = false := by
  unfold Builtin.divisionGoesByPylong
  by_cases z : b = 0
  · subst z
    rfl
  · have hb : (b == 0) = false := by simpa using z
    simp only [hb]
    have hb0 : b.natAbs ≠ 0 := by omega
    have := (Nat.log2_lt hb0).mpr h
    have : b.natAbs.log2 / 30 + 1 ≤ 300 := by omega
    simp
    intro q
    omega
def btl (k : Nat) (p : List Int) : Prop := ∀ x ∈ p, bt k x
theorem btl.mono {j k : Nat} {p : List Int} (h : btl j p) (l : j ≤ k) : btl k p := fun x hx => (h x hx).mono l
theorem btl.ic {k : Nat} {p : List Int} (h : btl k p) (i : Nat) : bt k (ic p i) := by
  show bt k ((p[i]?).getD 0)
  cases e : p[i]? with
  | none => exact bt.zero k
  | some x => exact h x (List.mem_of_getElem? e)
theorem btl_of_ic {k : Nat} {p : List Int} (h : ∀ i, bt k (Pd.ic p i)) : btl k p := fun x hx => by
  obtain ⟨i, hi, e⟩ := List.getElem_of_mem hx
  have := h i
  have e2 : Pd.ic p i = x := by
    show (p[i]?).getD 0 = x
    rw [List.getElem?_eq_getElem hi, e]
    rfl
  rwa [e2] at this
theorem btl.strip {k : Nat} {p : List Int} (h : btl k p) : btl k (strip p) := btl_of_ic fun i => by
  rw [strip_ic]
  exact h.ic i
end Pd
set_option Elab.async false
set_option linter.all false
set_option maxRecDepth 100000
set_option maxHeartbeats 4000000
/-! Pm: products, differences, shared divisors of whole polynomials; sizes. -/
namespace Pd
open Rl
/-! ### products -/
def adA (c : Int) (xs : List Int) (j : Nat) (r : List Int) : List Int := subAt (-c) j xs r
def muL (q : List Int) : Nat → List Int → List Int → List Int
  | _, [], r => r
  | i, c :: cs, r => muL q (i + 1) cs (adA c q i r)
theorem adA_len (c : Int) (xs : List Int) (j : Nat) (r : List Int) : (adA c xs j r).length = r.length := subAt_len ..
theorem muL_len (q : List Int) : ∀ (cs : List Int) (i : Nat) (r : List Int), (muL q i cs r).length = r.length
  | [], _, _ => rfl
  | c :: cs, i, r => by
    show (muL q (i + 1) cs (adA c q i r)).length = _
    rw [muL_len q cs, adA_len]
theorem ipv_muL (x : R) (q : List Int) : ∀ (cs : List Int) (i : Nat) (r : List Int), i + cs.length + q.length ≤ r.length + 1 → ipv (muL q i cs r) x = ipv r x + x ^ i * ipv cs x * ipv q x
  | [], i, r, _ => by
    rw [ipv_nil]
    show ipv r x = _
    grind
  | c :: cs, i, r, h => by
    have h : i + (cs.length + 1) + q.length ≤ r.length + 1 := h
    show ipv (muL q (i + 1) cs (adA c q i r)) x = _
    rw [ipv_muL x q cs (i + 1) _ (by rw [adA_len]; omega)]
    unfold adA
    rw [ipv_subAt x _ q i r (by omega), ipv_cons, int_neg]
    grind
theorem ipv_rep0 (x : R) : ∀ n, ipv (List.replicate n 0) x = 0
  | 0 => rfl
  | n + 1 => by
    rw [List.replicate_succ, ipv_cons, ipv_rep0 x n, int_zero]
    grind
/-- P times Q, noughts behind -/
def mulQ (p q : List Int) : List Int := muL q 0 p (List.replicate (p.length + q.length) 0)
theorem ipv_mulQ (p q : List Int) (x : R) : ipv (mulQ p q) x = ipv p x * ipv q x := by
  unfold mulQ
  rw [ipv_muL x q p 0 _ (by simp), ipv_rep0]
  grind
/-! ### coefficients and worths -/
theorem ic_of_ipv {p q : List Int} (h : ∀ x, 0 < x → ipv p x = ipv q x) (k : Nat) : ic p k = ic q k := by
  have := ident (padd (ri p) (psm (-1) (ri q))) (fun x hx => by
    rw [pv_padd, pv_psm]
    have := h x hx
    show ipv p x + -1 * ipv q x = 0
    grind) k
  rw [coef_padd, coef_psm, coef_ri, coef_ri] at this
  exact int_inj.mp (by grind)
theorem ic_ext' {p q : List Int} (h : p.length = q.length) (e : ∀ k, ic p k = ic q k) : p = q := by
  refine List.ext_getElem? fun k => ?_
  by_cases hk : k < p.length
  · have := e k
    have h1 : p[k]? = some p[k] := List.getElem?_eq_getElem hk
    have h2 : q[k]? = some q[k] := List.getElem?_eq_getElem (by omega)
    have this : (p[k]?).getD 0 = (q[k]?).getD 0 := this
    rw [h1, h2] at this ⊢
    exact congrArg some this
  · rw [List.getElem?_eq_none (by omega), List.getElem?_eq_none (by omega)]
/-- without noughts behind -/
def Nz (p : List Int) : Prop := p = [] ∨ ∃ n, p.length = n + 1 ∧ ic p n ≠ 0
theorem nz_strip (p : List Int) : Nz (strip p) := strip_top p
theorem nz_len {p q : List Int} (hp : Nz p) (e : ∀ k, ic p k = ic q k) : p.length ≤ q.length := by
  rcases hp with rfl | ⟨n, h1, h2⟩
  · exact Nat.zero_le _
  · by_cases z : p.length ≤ q.length
    · exact z
    · rw [e, ic_ge (by omega)] at h2
      exact absurd rfl h2
theorem nz_ext {p q : List Int} (hp : Nz p) (hq : Nz q) (e : ∀ k, ic p k = ic q k) : p = q := by
  have h1 := nz_len hp e
  have h2 := nz_len hq fun k => (e k).symm
  exact ic_ext' (by omega) e
theorem nz_ipv {p q : List Int} (hp : Nz p) (hq : Nz q) (e : ∀ x, 0 < x → ipv p x = ipv q x) : p = q := nz_ext hp hq (ic_of_ipv e)
theorem strip_id {p : List Int} (hp : Nz p) : strip p = p := nz_ext (nz_strip p) hp (strip_ic p)
theorem strip_ipv {p q : List Int} (e : ∀ x, 0 < x → ipv p x = ipv q x) : strip p = strip q := nz_ipv (nz_strip p) (nz_strip q) fun x hx => by rw [ipv_strip, ipv_strip, e x hx]
theorem nz_last {p : List Int} (hp : Nz p) (h : p ≠ []) : ∃ l, p.getLast? = some l ∧ l ≠ 0 := by
  rcases hp with z | ⟨n, h1, h2⟩
  · exact absurd z h
  · cases q : p.getLast? with
    | none => exact absurd (List.getLast?_eq_none_iff.mp q) h
    | some l =>
      refine ⟨l, rfl, fun z => h2 ?_⟩
      obtain ⟨d, hd, e⟩ := last_ic q
      have : d = n := by omega
      rw [← this, e, z]
theorem nz_of_last {p : List Int} {l : Int} (h : p.getLast? = some l) (h0 : l ≠ 0) : Nz p := by
  obtain ⟨d, hd, e⟩ := last_ic h
  exact .inr ⟨d, hd, by rw [e]; exact h0⟩
/-! ### differences -/
def subL (p q : List Int) : List Int := (List.range (max p.length q.length)).map fun k => ic p k - ic q k
theorem ic_subL (p q : List Int) (k : Nat) : ic (subL p q) k = ic p k - ic q k := by
  show ((subL p q)[k]?).getD 0 = _
  unfold subL
  rw [List.getElem?_map]
  by_cases h : k < max p.length q.length
  · rw [List.getElem?_range h]
    rfl
  · rw [List.getElem?_eq_none (by simp; omega), ic_ge (p := p) (by omega), ic_ge (p := q) (by omega)]
    rfl
theorem ri_subL (p q : List Int) (x : R) : ipv (subL p q) x = ipv p x - ipv q x := by
  have key : ∀ k, coef (ri (subL p q)) k = coef (padd (ri p) (psm (-1) (ri q))) k := fun k => by
    rw [coef_ri, ic_subL, coef_padd, coef_psm, coef_ri, coef_ri, int_sub]
    grind
  have h0 := pv_zero (padd (ri (subL p q)) (psm (-1) (padd (ri p) (psm (-1) (ri q))))) (fun k => by rw [coef_padd, coef_psm, key]; grind) x
  rw [pv_padd, pv_psm, pv_padd, pv_psm] at h0
  show pv (ri (subL p q)) x = pv (ri p) x - pv (ri q) x
  grind
/-! ### shared divisors -/
def gcf : Nat → List Int → Nat
  | g, [] => g
  | g, x :: r => gcf (Int.gcd g x) r
def gc (p : List Int) : Nat := gcf 0 p
theorem gcf_dvd : ∀ (p : List Int) (g : Nat), gcf g p ∣ g ∧ ∀ x ∈ p, ((gcf g p : Nat) : Int) ∣ x
  | [], g => ⟨Nat.dvd_refl _, fun x hx => by simp at hx⟩
  | a :: r, g => by
    obtain ⟨h1, h2⟩ := gcf_dvd r (Int.gcd g a)
    have k1 : ((Int.gcd g a : Nat) : Int) ∣ (g : Int) := Int.gcd_dvd_left ..
    have k2 : ((Int.gcd g a : Nat) : Int) ∣ a := Int.gcd_dvd_right ..
    have k0 : ((gcf (Int.gcd g a) r : Nat) : Int) ∣ ((Int.gcd g a : Nat) : Int) := Int.natCast_dvd_natCast.mpr h1
    refine ⟨Int.natCast_dvd_natCast.mp (Int.dvd_trans k0 k1), fun x hx => ?_⟩
    rcases List.mem_cons.mp hx with rfl | hx
    · exact Int.dvd_trans k0 k2
    · exact h2 x hx
theorem gc_dvd {p : List Int} {x : Int} (h : x ∈ p) : ((gc p : Nat) : Int) ∣ x := (gcf_dvd p 0).2 x h
theorem gcf_pos : ∀ (p : List Int) (g : Nat), (g ≠ 0 ∨ ∃ x ∈ p, x ≠ 0) → gcf g p ≠ 0
  | [], g, h => by
    rcases h with h | ⟨x, hx, _⟩
    · exact h
    · simp at hx
  | a :: r, g, h => by
    refine gcf_pos r _ ?_
    by_cases z : Int.gcd g a = 0
    · obtain ⟨z1, z2⟩ := Int.gcd_eq_zero_iff.mp z
      right
      rcases h with h | ⟨x, hx, h0⟩
      · omega
      · rcases List.mem_cons.mp hx with rfl | hx
        · exact absurd z2 h0
        · exact ⟨x, hx, h0⟩
    · exact .inl z
theorem nz_some {p : List Int} (hp : Nz p) (h : p ≠ []) : ∃ x ∈ p, x ≠ 0 := by
  obtain ⟨l, h1, h2⟩ := nz_last hp h
  exact ⟨l, List.mem_of_getLast? h1, h2⟩
theorem gc_pos {p : List Int} (hp : Nz p) (h : p ≠ []) : 0 < gc p := Nat.pos_of_ne_zero (gcf_pos p 0 (.inr (nz_some hp h)))
theorem gc_bt {p : List Int} {k : Nat} (hp : Nz p) (h : p ≠ []) (hb : btl k p) : bt k (gc p : Int) := by
  obtain ⟨x, hx, h0⟩ := nz_some hp h
  refine (hb x hx).le ?_
  have := Int.natAbs_dvd_natAbs.mpr (gc_dvd hx)
  exact Nat.le_of_dvd (by omega) this
/-- P divided by the shared divisor -/
def shr (p : List Int) : List Int := p.map fun x => x.fdiv (gc p)
theorem fdiv_dvd {g x : Int} (h0 : g ≠ 0) (h : g ∣ x) : g * x.fdiv g = x := by
  obtain ⟨y, rfl⟩ := h
  rw [Int.mul_fdiv_cancel_left y h0]
theorem shr_ic {p : List Int} (hp : Nz p) (h : p ≠ []) (k : Nat) : (gc p : Int) * ic (shr p) k = ic p k := by
  have g0 : (gc p : Int) ≠ 0 := by have := gc_pos hp h; omega
  show (gc p : Int) * ((shr p)[k]?).getD 0 = (p[k]?).getD 0
  unfold shr
  rw [List.getElem?_map]
  cases e : p[k]? with
  | none => show (gc p : Int) * 0 = 0; omega
  | some x =>
    show (gc p : Int) * x.fdiv (gc p) = x
    exact fdiv_dvd g0 (gc_dvd (List.mem_of_getElem? e))
theorem shr_len (p : List Int) : (shr p).length = p.length := by simp [shr]
theorem shr_nz {p : List Int} (hp : Nz p) (h : p ≠ []) : Nz (shr p) := by
  rcases hp with z | ⟨n, h1, h2⟩
  · exact absurd z h
  · refine .inr ⟨n, by rw [shr_len, h1], fun z => h2 ?_⟩
    rw [← shr_ic (.inr ⟨n, h1, h2⟩) h, z]
    omega
theorem shr_ipv {p : List Int} (hp : Nz p) (h : p ≠ []) (x : R) : ((gc p : Int) : R) * ipv (shr p) x = ipv p x := by
  have key : ∀ k, coef (psm ((gc p : Int) : R) (ri (shr p))) k = coef (ri p) k := fun k => by
    rw [coef_psm, coef_ri, coef_ri, ← shr_ic hp h k, int_mul]
  have h0 := pv_zero (padd (psm ((gc p : Int) : R) (ri (shr p))) (psm (-1) (ri p))) (fun k => by rw [coef_padd, coef_psm (-1), key]; grind) x
  rw [pv_padd, pv_psm, pv_psm] at h0
  show _ * pv (ri (shr p)) x = pv (ri p) x
  grind
theorem shr_bt {p : List Int} {k : Nat} (hp : Nz p) (h : p ≠ []) (hb : btl k p) : btl k (shr p) := btl_of_ic fun i => by
  refine (hb.ic i).le ?_
  rw [← shr_ic hp h i, Int.natAbs_mul]
  have := gc_pos hp h
  exact Nat.le_mul_of_pos_left _ (by omega)
/-! ### slopes -/
theorem slF_len : ∀ (r : List Int) (k : Int), (slF k r).length = r.length
  | [], _ => rfl
  | c :: r, k => by
    show (slF (k + 1) r).length + 1 = _
    rw [slF_len r]
    rfl
theorem ic_slF : ∀ (r : List Int) (k : Int) (i : Nat), ic (slF k r) i = (k + i) * ic r i
  | [], k, i => by
    show (0 : Int) = (k + i) * 0
    omega
  | c :: r, k, 0 => by
    show k * c = (k + ((0 : Nat) : Int)) * c
    simp
  | c :: r, k, i + 1 => by
    show ic (slF (k + 1) r) i = (k + ((i + 1 : Nat) : Int)) * ic r i
    rw [ic_slF r (k + 1) i]
    congr 1
    omega
theorem ic_slp (p : List Int) (i : Nat) : ic (slp p) i = ((i : Int) + 1) * ic p (i + 1) := by
  cases p with
  | nil =>
    show ic (slF 1 []) i = _
    rw [ic_slF]
    show (1 + (i : Int)) * 0 = (_ + 1) * 0
    omega
  | cons c r =>
    show ic (slF 1 r) i = ((i : Int) + 1) * ic r i
    rw [ic_slF]
    congr 1
    omega
theorem slp_len (p : List Int) : (slp p).length = p.length - 1 := by
  unfold slp
  rw [slF_len]
  simp
theorem slp_nz {p : List Int} (hp : Nz p) : Nz (slp p) := by
  rcases hp with z | ⟨n, h1, h2⟩
  · subst z
    exact .inl rfl
  · cases n with
    | zero =>
      refine .inl (List.eq_nil_of_length_eq_zero ?_)
      rw [slp_len]
      omega
    | succ n =>
      refine .inr ⟨n, by rw [slp_len]; omega, ?_⟩
      rw [ic_slp]
      exact Int.mul_ne_zero (by omega) h2
/-! ### division: factor times P is quotient times Q and the rest -/
theorem ipv_setq (x : R) {u : List Int} {n : Nat} (m : Int) (h : n < u.length) (h0 : ic u n = 0) : ipv (u.set n m) x = ipv u x + (m : R) * x ^ n := by
  have := ipv_set x m u n h
  rwa [h0, Int.zero_add] at this
theorem quoLoop_ipv {q : List Int} {l : Int} {d : Nat} (hq : q.length = d + 1) (x : R) : ∀ (n : Nat) (r u : List Int), n + d ≤ r.length → n ≤ u.length → (∀ k, k < n → ic u k = 0) → ipv (divLoop q l n r) x = ipv r x - (ipv (quoLoop q l n r u) x - ipv u x) * ipv q x
  | 0, r, u, _, _, _ => by
    show ipv r x = ipv r x - (ipv u x - ipv u x) * ipv q x
    grind
  | n + 1, r, u, h, hu, hz => by
    obtain ⟨m, hm⟩ : ∃ m, ((r[n + (q.length - 1)]?).getD 0).fdiv l = m := ⟨_, rfl⟩
    have ih := quoLoop_ipv (l := l) hq x n (divStep q l n r) (u.set n m) (by rw [divStep_len]; omega) (by simp; omega) (fun k hk => by
      rw [ic_set _ _ _ _ (by omega), if_neg (by omega)]
      exact hz k (by omega))
    show ipv (divLoop q l n (divStep q l n r)) x = ipv r x - (ipv (quoLoop q l n (divStep q l n r) (u.set n (((r[n + (q.length - 1)]?).getD 0).fdiv l))) x - ipv u x) * ipv q x
    rw [hm, ih, ipv_setq x m (by omega) (hz n (by omega))]
    have e : ipv (divStep q l n r) x = ipv r x - (m : R) * x ^ n * ipv q x := by
      unfold divStep
      rw [hm]
      exact ipv_subAt x m q n r (by omega)
    rw [e]
    grind
theorem quo_ipv {p q : List Int} {l : Int} (hl : q.getLast? = some l) (hle : q.length ≤ p.length) (x : R) : ipv p x * ((aint l ^ (p.length - q.length + 1) : Int) : R) = ipv (quo p q l) x * ipv q x + ipv (rst p q l) x := by
  obtain ⟨d, hd, _⟩ := last_ic hl
  have := quoLoop_ipv (l := l) hd x (p.length - q.length + 1) (p.map (· * aint l ^ (p.length - q.length + 1))) (List.replicate (p.length - q.length + 1) 0) (by simp; omega) (by simp) (fun k hk => by
    show ((List.replicate (p.length - q.length + 1) 0)[k]?).getD 0 = 0
    rw [List.getElem?_replicate]
    split <;> rfl)
  rw [ipv_map, ipv_rep0] at this
  unfold rst quo
  grind
theorem rst_len {p q : List Int} {l : Int} (hl : q.getLast? = some l) (h0 : l ≠ 0) (hle : q.length ≤ p.length) : (strip (rst p q l)).length < q.length := by
  have low := rst_low hl h0 hle
  rcases strip_top (rst p q l) with z | ⟨n, h1, h2⟩
  · rw [z]
    obtain ⟨d, hd, _⟩ := last_ic hl
    simp
    omega
  · rw [strip_ic] at h2
    by_cases c : (strip (rst p q l)).length < q.length
    · exact c
    · exact absurd (low n (by omega)) h2
/-! ### sizes of the rest -/
/-- r is l^k times something of few bits -/
def Sc (l : Int) (k B : Nat) (r : List Int) : Prop := ∀ i, ∃ y, ic r i = aint l ^ k * y ∧ bt B y
theorem sc_step {q : List Int} {l : Int} {d k B Y : Nat} (hq : q.length = d + 1) (hl : ic q d = l) (h0 : l ≠ 0) (hY : btl Y q) {r : List Int} (hr : k + 1 + d ≤ r.length) (hs : Sc l (k + 1) B r) :
    Sc l k (B + Y + 1) (divStep q l k r) ∧ bt (B + k * Y + 1) ((ic r (k + d)).fdiv l) := by
  obtain ⟨yt, ht, bt_⟩ := hs (k + d)
  obtain ⟨s, hs1, hs2⟩ : ∃ s : Int, aint l = s * l ∧ (s = 1 ∨ s = -1) := by
    unfold aint
    split
    · exact ⟨-1, by omega, .inr rfl⟩
    · exact ⟨1, by omega, .inl rfl⟩
  have hlY : bt Y l := by rw [← hl]; exact hY.ic d
  have hm : (ic r (k + d)).fdiv l = aint l ^ k * (s * yt) := by
    refine fdiv_of_mul h0 ?_
    rw [ht, Int.pow_succ, hs1]
    grind
  have hsy : bt B (s * yt) := by
    rcases hs2 with rfl | rfl
    · rw [Int.one_mul]; exact bt_
    · rw [show -1 * yt = -yt by omega]; exact bt_.neg
  constructor
  · intro i
    obtain ⟨y, hy, by_⟩ := hs i
    refine ⟨aint l * y - (s * yt) * (if k ≤ i then ic q (i - k) else 0), ?_, ?_⟩
    · unfold divStep
      rw [hq, Nat.add_sub_cancel, ic_subAt _ _ _ _ _ (by omega)]
      show ic r i - (ic r (k + d)).fdiv l * _ = _
      rw [hm, hy, Int.pow_succ]
      grind
    · have e1 : bt (B + Y) (aint l * y) := by
        have := (hlY.abs).mul by_
        rwa [Nat.add_comm] at this
      have e2 : bt (B + Y) ((s * yt) * (if k ≤ i then ic q (i - k) else 0)) := by
        refine hsy.mul ?_
        split
        · exact hY.ic _
        · exact bt.zero _
      exact e1.sub e2
  · rw [hm]
    have := (hlY.abs.pow k).mul hsy
    exact this.mono (by omega)
theorem sc_loop {q : List Int} {l : Int} {d Y : Nat} (hq : q.length = d + 1) (hl : ic q d = l) (h0 : l ≠ 0) (hY : btl Y q) : ∀ (n B : Nat) (r : List Int), n + d ≤ r.length → Sc l n B r → Sc l 0 (B + n * (Y + 1)) (divLoop q l n r)
  | 0, B, r, _, h => by
    rw [Nat.zero_mul]
    exact h
  | n + 1, B, r, hr, h => by
    have := sc_loop hq hl h0 hY n (B + Y + 1) (divStep q l n r) (by rw [divStep_len]; omega) (sc_step hq hl h0 hY (by omega) h).1
    rw [show B + Y + 1 + n * (Y + 1) = B + (n + 1) * (Y + 1) by rw [Nat.succ_mul]; omega] at this
    exact this
theorem sc_start {p : List Int} {l : Int} {B : Nat} (hB : btl B p) (n : Nat) : Sc l n B (p.map (· * aint l ^ n)) := fun i => ⟨ic p i, by rw [ic_map, Int.mul_comm], hB.ic i⟩
theorem rst_bt {p q : List Int} {l : Int} {X Y : Nat} (hl : q.getLast? = some l) (h0 : l ≠ 0) (hle : q.length ≤ p.length) (hX : btl X p) (hY : btl Y q) : btl (X + (p.length - q.length + 1) * (Y + 1)) (rst p q l) := by
  obtain ⟨d, hd, hc⟩ := last_ic hl
  have := sc_loop hd hc h0 hY (p.length - q.length + 1) X (p.map (· * aint l ^ (p.length - q.length + 1))) (by simp; omega) (sc_start hX _)
  refine btl_of_ic fun i => ?_
  obtain ⟨y, hy, hb⟩ := this i
  unfold rst
  rw [hy, Int.pow_zero, Int.one_mul]
  exact hb
end Pd
set_option Elab.async false
set_option linter.all false
/-! Mt86: numbers a + b t + c t^2 with t^3 = m, over the reals. -/
namespace Mt86
open Rl
noncomputable section
/-- the norm -/
def nm (x y z m : R) : R := x * x * x + m * y * y * y + m * m * z * z * z - 3 * m * x * y * z
def vl (t x y z : R) : R := x + y * t + z * (t * t)
def qd (t x y z : R) : R := (x - y * t) * (x - y * t) + (y * t - z * (t * t)) * (y * t - z * (t * t)) + (z * (t * t) - x) * (z * (t * t) - x)
theorem nm_eq {t m : R} (h : t * t * t = m) (x y z : R) : 2 * nm x y z m = vl t x y z * qd t x y z := by
  unfold nm vl qd
  subst h
  grind
theorem qd_nn (t x y z : R) : 0 ≤ qd t x y z := by
  have h1 := sq_nn (x - y * t)
  have h2 := sq_nn (y * t - z * (t * t))
  have h3 := sq_nn (z * (t * t) - x)
  unfold qd
  grind
theorem pos_of {t m : R} (h : t * t * t = m) {x y z : R} (hn : 0 < nm x y z m) : 0 < vl t x y z := by
  have e := nm_eq h x y z
  have q := qd_nn t x y z
  by_cases k : 0 < vl t x y z
  · exact k
  · have := mul_nn (show 0 ≤ -vl t x y z by grind) q
    grind
theorem neg_of {t m : R} (h : t * t * t = m) {x y z : R} (hn : nm x y z m < 0) : vl t x y z < 0 := by
  have e := nm_eq h x y z
  have q := qd_nn t x y z
  by_cases k : vl t x y z < 0
  · exact k
  · have := mul_nn (show 0 ≤ vl t x y z by grind) q
    grind
theorem int_ratz (i : Int) : ((i : Int) : R) = rat (i : Rat) := rfl
/-- a third root -/
theorem root3 (m : Int) (h : 1 ≤ m) : ∃ t : R, 0 < t ∧ t * t * t = (m : R) := by
  have e : ∀ x : R, pv [-(m : R), 0, 0, 1] x = x * x * x - m := fun x => by
    show -(m : R) + x * (0 + x * (0 + x * (1 + x * 0))) = _
    grind
  have m0 : (1 : R) ≤ (m : R) := by
    have := int_le.mpr h
    rwa [int_one] at this
  have z0 : rat ((0 : Int) : Rat) = (0 : R) := rfl
  have z1 : rat ((m + 1 : Int) : Rat) = (m : R) + 1 := by
    rw [← int_rat, int_add, int_one]
  obtain ⟨t, t1, t2, t3⟩ := ivt_rat (f := pv [-(m : R), 0, 0, 1]) (l := ((0 : Int) : Rat)) (h := ((m + 1 : Int) : Rat)) (Rat.intCast_lt_intCast.mpr (by omega)) (fun x _ _ => cont_pv _ x) (by rw [e, z0]; grind) (by
    rw [e, z1]
    have p1 := mul_nn (show 0 ≤ (m : R) by have := zero_lt_one'; grind) (show 0 ≤ (m : R) by have := zero_lt_one'; grind)
    have p2 := mul_nn p1 (show 0 ≤ (m : R) by have := zero_lt_one'; grind)
    grind)
  rw [e] at t3
  rw [z0] at t1
  refine ⟨t, ?_, by grind⟩
  by_cases k : 0 < t
  · exact k
  · have : t = 0 := by grind
    subst this
    have := zero_lt_one'
    grind
end
end Mt86
set_option Elab.async false
set_option linter.all false
/-! Ir86: the norm of whole numbers is nought of noughts alone (m from 2 to 7). -/
namespace Ir86
def nr (x y z m : Int) : Int := x * x * x + m * y * y * y + m * m * z * z * z - 3 * m * x * y * z
theorem cube_mod (x p r k : Int) (h : x = p * k + r) : ∃ j, x * x * x = p * j + r * r * r := ⟨p * p * k * k * k + 3 * p * k * k * r + 3 * k * r * r, by subst h; grind⟩
theorem dvd2 {x u w : Int} (hu : u = 1 ∨ u = 3) (h : u * (x * x * x) = 2 * w) : ∃ k, x = 2 * k := by
  have e : x = 2 * (x / 2) + x % 2 := by omega
  obtain ⟨j, hj⟩ := cube_mod x 2 (x % 2) (x / 2) e
  have : x % 2 = 0 ∨ x % 2 = 1 := by omega
  rcases this with r | r
  · exact ⟨x / 2, by omega⟩
  · rw [r] at hj
    rcases hu with rfl | rfl <;> omega
theorem dvd3 {x u w : Int} (hu : u = 1 ∨ u = 2) (h : u * (x * x * x) = 3 * w) : ∃ k, x = 3 * k := by
  have e : x = 3 * (x / 3) + x % 3 := by omega
  obtain ⟨j, hj⟩ := cube_mod x 3 (x % 3) (x / 3) e
  have : x % 3 = 0 ∨ x % 3 = 1 ∨ x % 3 = 2 := by omega
  rcases this with r | r | r
  · exact ⟨x / 3, by omega⟩
  all_goals
    rw [r] at hj
    rcases hu with rfl | rfl <;> omega
theorem dvd5 {x w : Int} (h : x * x * x = 5 * w) : ∃ k, x = 5 * k := by
  have e : x = 5 * (x / 5) + x % 5 := by omega
  obtain ⟨j, hj⟩ := cube_mod x 5 (x % 5) (x / 5) e
  have : x % 5 = 0 ∨ x % 5 = 1 ∨ x % 5 = 2 ∨ x % 5 = 3 ∨ x % 5 = 4 := by omega
  rcases this with r | r | r | r | r
  · exact ⟨x / 5, by omega⟩
  all_goals
    rw [r] at hj
    omega
theorem dvd7 {x w : Int} (h : x * x * x = 7 * w) : ∃ k, x = 7 * k := by
  have e : x = 7 * (x / 7) + x % 7 := by omega
  obtain ⟨j, hj⟩ := cube_mod x 7 (x % 7) (x / 7) e
  have : x % 7 = 0 ∨ x % 7 = 1 ∨ x % 7 = 2 ∨ x % 7 = 3 ∨ x % 7 = 4 ∨ x % 7 = 5 ∨ x % 7 = 6 := by omega
  rcases this with r | r | r | r | r | r | r
  · exact ⟨x / 7, by omega⟩
  all_goals
    rw [r] at hj
    omega
/-- a prime p of m = p u that divides neither u nor, but for their multiples, a cube: descent -/
theorem descent (p u : Int) (hp : 2 ≤ p) (d1 : ∀ x w : Int, x * x * x = p * w → ∃ k, x = p * k) (d2 : ∀ x w : Int, u * (x * x * x) = p * w → ∃ k, x = p * k) (d3 : ∀ x w : Int, u * u * (x * x * x) = p * w → ∃ k, x = p * k) :
    ∀ (n : Nat) (x y z : Int), x.natAbs + y.natAbs + z.natAbs ≤ n → nr x y z (p * u) = 0 → x = 0 ∧ y = 0 ∧ z = 0 := by
  intro n
  induction n with
  | zero => intro x y z h _; omega
  | succ n ih =>
    intro x y z h e
    unfold nr at e
    obtain ⟨a, rfl⟩ := d1 x (-(u * y * y * y + p * u * u * z * z * z - 3 * u * x * y * z)) (by grind)
    have e1 : p * (p * p * (a * a * a) + u * (y * y * y) + p * (u * u * (z * z * z)) - 3 * p * u * a * y * z) = 0 := by grind
    have e2 : p * p * (a * a * a) + u * (y * y * y) + p * (u * u * (z * z * z)) - 3 * p * u * a * y * z = 0 := by
      rcases Int.mul_eq_zero.mp e1 with h | h
      · omega
      · exact h
    obtain ⟨b, rfl⟩ := d2 y (-(p * (a * a * a) + u * u * (z * z * z) - 3 * u * a * y * z)) (by grind)
    have e3 : p * (p * (a * a * a) + p * p * (u * (b * b * b)) + u * u * (z * z * z) - 3 * p * u * a * b * z) = 0 := by grind
    have e4 : p * (a * a * a) + p * p * (u * (b * b * b)) + u * u * (z * z * z) - 3 * p * u * a * b * z = 0 := by
      rcases Int.mul_eq_zero.mp e3 with h | h
      · omega
      · exact h
    obtain ⟨c, rfl⟩ := d3 z (-((a * a * a) + p * (u * (b * b * b)) - 3 * u * a * b * z)) (by grind)
    have e5 : p * nr a b c (p * u) = 0 := by unfold nr; grind
    have e6 : nr a b c (p * u) = 0 := by
      rcases Int.mul_eq_zero.mp e5 with h | h
      · omega
      · exact h
    by_cases hz : a = 0 ∧ b = 0 ∧ c = 0
    · obtain ⟨rfl, rfl, rfl⟩ := hz
      simp
    · have key : ∀ v : Int, 2 * v.natAbs ≤ (p * v).natAbs := fun v => by
        rw [Int.natAbs_mul]
        exact Nat.mul_le_mul_right _ (by omega)
      have k1 := key a
      have k2 := key b
      have k3 := key c
      have := ih a b c (by omega) e6
      exact absurd this hz
theorem irr (x y z m : Int) (h1 : 2 ≤ m) (h2 : m ≤ 7) (h : nr x y z m = 0) : x = 0 ∧ y = 0 ∧ z = 0 := by
  have : m = 2 ∨ m = 3 ∨ m = 4 ∨ m = 5 ∨ m = 6 ∨ m = 7 := by omega
  rcases this with rfl | rfl | rfl | rfl | rfl | rfl
  · exact descent 2 1 (by omega) (fun x w e => dvd2 (w := w) (.inl rfl) (by omega)) (fun x w e => dvd2 (.inl rfl) e) (fun x w e => dvd2 (w := w) (.inl rfl) (by omega)) _ x y z (Nat.le_refl _) h
  · exact descent 3 1 (by omega) (fun x w e => dvd3 (w := w) (.inl rfl) (by omega)) (fun x w e => dvd3 (.inl rfl) e) (fun x w e => dvd3 (w := w) (.inl rfl) (by omega)) _ x y z (Nat.le_refl _) h
  · -- 4: x is even, and then it is 2's norm of y, x / 2, z
    obtain ⟨a, rfl⟩ := dvd2 (x := x) (u := 1) (w := -(2 * (y * y * y) + 8 * (z * z * z) - 6 * x * y * z)) (.inl rfl) (by unfold nr at h; grind)
    have e : nr y a z 2 = 0 := by
      have : 4 * nr y a z 2 = 0 := by unfold nr at h ⊢; grind
      omega
    have := descent 2 1 (by omega) (fun x w e => dvd2 (w := w) (.inl rfl) (by omega)) (fun x w e => dvd2 (.inl rfl) e) (fun x w e => dvd2 (w := w) (.inl rfl) (by omega)) _ y a z (Nat.le_refl _) e
    obtain ⟨h1, h2, h3⟩ := this
    subst h1 h2 h3
    simp
  · exact descent 5 1 (by omega) (fun x w e => dvd5 e) (fun x w e => dvd5 (w := w) (by omega)) (fun x w e => dvd5 (w := w) (by omega)) _ x y z (Nat.le_refl _) h
  · exact descent 2 3 (by omega) (fun x w e => dvd2 (w := w) (.inl rfl) (by omega)) (fun x w e => dvd2 (.inr rfl) e) (fun x w e => dvd2 (w := w - 3 * (x * x * x)) (.inr rfl) (by omega)) _ x y z (Nat.le_refl _) h
  · exact descent 7 1 (by omega) (fun x w e => dvd7 e) (fun x w e => dvd7 (w := w) (by omega)) (fun x w e => dvd7 (w := w) (by omega)) _ x y z (Nat.le_refl _) h
end Ir86
set_option Elab.async false
set_option linter.all false
/-! Mu86: signs of norms and of numbers. -/
namespace Mt86
open Rl Ir86
noncomputable section
theorem nm_cast (x y z m : Int) : nm (x : R) y z m = ((nr x y z m : Int) : R) := by
  unfold nr nm
  simp only [int_sub, int_add, int_mul]
  rfl
section
variable {t : R} {m : Int} (h : t * t * t = (m : R)) (m1 : 2 ≤ m) (m2 : m ≤ 7)
include h
theorem sg_pos {x y z : Int} (k : 0 < nr x y z m) : 0 < vl t x y z := pos_of h (by rw [nm_cast, ← int_zero, int_lt]; exact k)
theorem sg_neg {x y z : Int} (k : nr x y z m < 0) : vl t x y z < 0 := neg_of h (by rw [nm_cast, ← int_zero, int_lt]; exact k)
include m1 m2
theorem sg_zero {x y z : Int} (k : nr x y z m = 0) : x = 0 ∧ y = 0 ∧ z = 0 := irr x y z m m1 m2 k
theorem pos_iff (x y z : Int) : 0 < vl t x y z ↔ 0 < nr x y z m := by
  constructor
  · intro k
    by_cases p : 0 < nr x y z m
    · exact p
    · by_cases q : nr x y z m < 0
      · have := sg_neg h q
        grind
      · obtain ⟨rfl, rfl, rfl⟩ := sg_zero h m1 m2 (x := x) (y := y) (z := z) (by omega)
        unfold vl at k
        rw [int_zero] at k
        grind
  · exact sg_pos h
theorem neg_iff (x y z : Int) : vl t x y z < 0 ↔ nr x y z m < 0 := by
  constructor
  · intro k
    by_cases p : nr x y z m < 0
    · exact p
    · by_cases q : 0 < nr x y z m
      · have := sg_pos h q
        grind
      · obtain ⟨rfl, rfl, rfl⟩ := sg_zero h m1 m2 (x := x) (y := y) (z := z) (by omega)
        unfold vl at k
        rw [int_zero] at k
        grind
  · exact sg_neg h
end
end
end Mt86
set_option Elab.async false
set_option linter.all false
set_option maxRecDepth 100000
set_option maxHeartbeats 4000000
/-! Qd: square roots, fractions, cubes of roots: how far they lie apart. -/
namespace Qd
open Rl Pd Mt86
noncomputable section
theorem one_pos : (0 : R) < 1 := zero_lt_one'
theorem sqrt_ex (e : Int) (h : 0 ≤ e) : ∃ s : R, 0 ≤ s ∧ s * s = (e : R) := by
  by_cases z : e = 0
  · refine ⟨0, by grind, ?_⟩
    rw [z, int_zero]
    grind
  have h1 : (1 : R) ≤ (e : R) := by
    have := int_le.mpr (show (1 : Int) ≤ e by omega)
    exact this
  have h0 := one_pos
  have lt : (0 : Rat) < (e : Rat) + 1 := by
    have : (0 : Rat) ≤ (e : Rat) := by exact_mod_cast h
    grind
  have er : rat ((e : Rat) + 1) = (e : R) + 1 := by rw [rat_add, int_rat]; rfl
  have z0 : rat (0 : Rat) = (0 : R) := rfl
  have ev : ∀ x : R, pv [-(e : R), 0, 1] x = x * x - e := fun x => by
    show -(e : R) + x * (0 + x * (1 + x * 0)) = _
    grind
  obtain ⟨s, s1, s2, hs⟩ := ivt_rat (f := pv [-(e : R), 0, 1]) lt (fun x _ _ => cont_pv _ x) (by
    rw [z0, ev]
    grind) (by
    rw [er, ev]
    have := mul_nn (show 0 ≤ (e : R) by grind) (show 0 ≤ (e : R) by grind)
    grind)
  rw [ev] at hs
  rw [z0] at s1
  exact ⟨s, s1, by grind⟩
/-- no square -/
def Nsq (e : Int) : Prop := ∀ x : Int, x * x ≠ e
theorem nsq_irr {e X Y : Int} (he : Nsq e) (h : X * X = e * (Y * Y)) : Y = 0 := by
  by_cases z : Y = 0
  · exact z
  · exfalso
    by_cases e0 : e < 0
    · have h1 : 0 ≤ X * X := by
        have := Int.mul_self_le_mul_self (show (0 : Int) ≤ 0 by omega) (show (0 : Int) ≤ 0 by omega)
        by_cases c : 0 ≤ X
        · exact Int.mul_nonneg c c
        · have := Int.mul_nonneg (show 0 ≤ -X by omega) (show 0 ≤ -X by omega)
          grind
      have h2 : 0 < Y * Y := by
        by_cases c : 0 < Y
        · exact Int.mul_pos c c
        · have := Int.mul_pos (show 0 < -Y by omega) (show 0 < -Y by omega)
          grind
      have := Int.mul_pos (show 0 < -e by omega) h2
      grind
    · have hn : X.natAbs * X.natAbs = e.natAbs * (Y.natAbs * Y.natAbs) := by
        have := congrArg Int.natAbs h
        rwa [Int.natAbs_mul, Int.natAbs_mul, Int.natAbs_mul] at this
      have yp : 0 < Y.natAbs := by omega
      obtain ⟨g, x, y, hg, hc, hx, hy⟩ := Nat.exists_coprime' (m := X.natAbs) (n := Y.natAbs) (Nat.gcd_pos_of_pos_right _ yp)
      rw [hx, hy] at hn
      have hn2 : x * x = e.natAbs * (y * y) := by
        have gg : 0 < g * g := Nat.mul_pos hg hg
        refine Nat.eq_of_mul_eq_mul_left gg ?_
        calc g * g * (x * x) = x * g * (x * g) := by grind
          _ = e.natAbs * (y * g * (y * g)) := hn
          _ = g * g * (e.natAbs * (y * y)) := by grind
      have hd : y ∣ x * x := ⟨e.natAbs * y, by rw [hn2]; grind⟩
      have hd2 : y ∣ x := (Nat.Coprime.symm hc).dvd_of_dvd_mul_left hd
      have hy1 : y = 1 := by
        have := Nat.dvd_gcd hd2 (Nat.dvd_refl y)
        rw [show Nat.gcd x y = 1 from hc] at this
        exact Nat.dvd_one.mp this
      rw [hy1] at hn2
      refine he (x : Int) ?_
      have : (x : Int) * x = (e.natAbs : Int) := by
        have := congrArg (fun n : Nat => (n : Int)) hn2
        simpa using this
      omega
/-! ### factors of degree one and two -/
structure Fac where
  u : Int
  e : Int
  b : Int
structure Fac.ok (f : Fac) : Prop where
  u1 : -11 ≤ f.u
  u2 : f.u ≤ 11
  b1 : 1 ≤ f.b
  b2 : f.b ≤ 3
  e1 : -35 ≤ f.e
  e2 : f.e ≤ 35
  sq : f.e ≠ 0 → Nsq f.e
/-- the polynomial, not shrunk -/
def Fac.p (f : Fac) : List Int := if f.e = 0 then [-f.u, f.b] else [f.u * f.u - f.e, -2 * f.b * f.u, f.b * f.b]
def Fac.q (f : Fac) (x : R) : R := (f.b : R) * x - f.u
theorem fac_val (f : Fac) (x : R) : ipv f.p x = if f.e = 0 then f.q x else f.q x * f.q x - f.e := by
  unfold Fac.p Fac.q
  split
  · rw [ipv_cons, ipv_cons, ipv_nil, int_neg]
    grind
  · rw [ipv_cons, ipv_cons, ipv_cons, ipv_nil, int_sub, int_mul, int_mul, int_mul, int_mul]
    have e2 : ((-2 : Int) : R) = -2 := by
      rw [show (-2 : Int) = -(2 : Int) from rfl, int_neg]
      rfl
    rw [e2]
    grind
theorem fac_nz {f : Fac} (h : f.ok) : Nz f.p ∧ f.p ≠ [] := by
  unfold Fac.p
  have hb := h.b1
  split
  · exact ⟨.inr ⟨1, rfl, by show f.b ≠ 0; omega⟩, by simp⟩
  · refine ⟨.inr ⟨2, rfl, ?_⟩, by simp⟩
    show f.b * f.b ≠ 0
    exact Int.mul_ne_zero (by omega) (by omega)
/-- the shape: shrunk -/
def Fac.s (f : Fac) : List Int := shr f.p
theorem fac_s_val {f : Fac} (h : f.ok) (x : R) : ((gc f.p : Int) : R) * ipv f.s x = ipv f.p x := shr_ipv (fac_nz h).1 (fac_nz h).2 x
theorem gc_r {f : Fac} (h : f.ok) : (0 : R) < ((gc f.p : Int) : R) := by
  have := gc_pos (fac_nz h).1 (fac_nz h).2
  have := int_lt.mpr (show (0 : Int) < (gc f.p : Int) by omega)
  rwa [int_zero] at this
/-- equal but for a factor: the same shape -/
theorem shr_prop {p q : List Int} (hp : Nz p) (hq : Nz q) (p0 : p ≠ []) (q0 : q ≠ []) {a c : Int} (ha : 0 < a) (hc : 0 < c) (h : ∀ k, a * ic p k = c * ic q k) : shr p = shr q := by
  have g1 := gc_pos hp p0
  have g2 := gc_pos hq q0
  have key : ∀ k, (a * gc p) * ic (shr p) k = (c * gc q) * ic (shr q) k := fun k => by
    have e1 := shr_ic hp p0 k
    have e2 := shr_ic hq q0 k
    have := h k
    grind
  have prim : ∀ {p : List Int} (hp : Nz p) (p0 : p ≠ []) (d : Int), (∀ k, d ∣ ic (shr p) k) → d.natAbs = 1 := fun {p} hp p0 d hd => by
    have hg : ((gc p : Int) * d).natAbs ∣ gc p := by
      have gg : ∀ (l : List Int) (g : Nat) (n : Nat), n ∣ g → (∀ x ∈ l, (n : Int) ∣ x) → n ∣ gcf g l := fun l => by
        induction l with
        | nil => intro g n h1 _; exact h1
        | cons x r ih =>
          intro g n h1 h2
          refine ih _ n ?_ fun y hy => h2 y (List.mem_cons_of_mem _ hy)
          exact Nat.dvd_gcd h1 (Int.ofNat_dvd_left.mp (h2 x (List.mem_cons_self ..)))
      refine gg p 0 _ (Nat.dvd_zero _) fun x hx => ?_
      obtain ⟨i, hi, e⟩ := List.getElem_of_mem hx
      have e2 : ic p i = x := by
        show (p[i]?).getD 0 = x
        rw [List.getElem?_eq_getElem hi, e]
        rfl
      rw [← e2, ← shr_ic hp p0 i]
      refine Int.natAbs_dvd.mpr ?_
      exact Int.mul_dvd_mul_left _ (hd i)
    have gp := gc_pos hp p0
    rw [Int.natAbs_mul] at hg
    obtain ⟨y, hy⟩ := hg
    have : (gc p : Int).natAbs = gc p := rfl
    rw [this] at hy
    have h1 : d.natAbs * y = 1 := by
      have : gc p * 1 = gc p * (d.natAbs * y) := by rw [← Nat.mul_assoc, ← hy]; omega
      exact (Nat.eq_of_mul_eq_mul_left gp this).symm
    exact Nat.eq_one_of_mul_eq_one_right h1
  have A0 : 0 < a * gc p := Int.mul_pos ha (by omega)
  have C0 : 0 < c * gc q := Int.mul_pos hc (by omega)
  obtain ⟨g, A, C, hg, hcop, hA, hC⟩ := Nat.exists_coprime' (m := (a * gc p).toNat) (n := (c * gc q).toNat) (Nat.gcd_pos_of_pos_right _ (by omega))
  have key2 : ∀ k, (A : Int) * ic (shr p) k = (C : Int) * ic (shr q) k := fun k => by
    have := key k
    have e1 : a * gc p = ((A * g : Nat) : Int) := by omega
    have e2 : c * gc q = ((C * g : Nat) : Int) := by omega
    rw [e1, e2] at this
    have hg' : (g : Int) ≠ 0 := by omega
    refine Int.eq_of_mul_eq_mul_left hg' ?_
    simp only [Int.natCast_mul] at this
    grind
  have hC1 : C = 1 := by
    have := prim hp p0 (C : Int) fun k => by
      have hd : (C : Int) ∣ (A : Int) * ic (shr p) k := ⟨_, key2 k⟩
      have := Int.natAbs_dvd_natAbs.mpr hd
      rw [Int.natAbs_mul] at this
      have h3 : C ∣ A * (ic (shr p) k).natAbs := this
      exact Int.ofNat_dvd_left.mpr ((Nat.Coprime.symm hcop).dvd_of_dvd_mul_left h3)
    simpa using this
  have hA1 : A = 1 := by
    have := prim hq q0 (A : Int) fun k => by
      have hd : (A : Int) ∣ (C : Int) * ic (shr q) k := ⟨_, (key2 k).symm⟩
      have := Int.natAbs_dvd_natAbs.mpr hd
      rw [Int.natAbs_mul] at this
      have h3 : A ∣ C * (ic (shr q) k).natAbs := this
      exact Int.ofNat_dvd_left.mpr (hcop.dvd_of_dvd_mul_left h3)
    simpa using this
  refine nz_ext (shr_nz hp p0) (shr_nz hq q0) fun k => ?_
  have := key2 k
  rw [hA1, hC1] at this
  omega
end
end Qd
set_option Elab.async false
set_option linter.all false
set_option maxRecDepth 100000
set_option maxHeartbeats 4000000
/-! Cp: polynomials without a common part, by Bezout; slopes of products. -/
namespace Qd
open Rl Pd Mt86
noncomputable section
/-- no common part -/
def Cop (P Q : List R) : Prop := ∃ U V : List R, ∀ x, pv U x * pv P x + pv V x * pv Q x = 1
theorem Cop.symm {P Q : List R} (h : Cop P Q) : Cop Q P := by
  obtain ⟨U, V, h⟩ := h
  exact ⟨V, U, fun x => by have := h x; grind⟩
theorem Cop.ext {P P' Q Q' : List R} (h : Cop P Q) (e1 : ∀ x, pv P' x = pv P x) (e2 : ∀ x, pv Q' x = pv Q x) : Cop P' Q' := by
  obtain ⟨U, V, h⟩ := h
  exact ⟨U, V, fun x => by rw [e1, e2]; exact h x⟩
theorem Cop.mul {P P' Q : List R} (h : Cop P Q) (k : Cop P' Q) : Cop (pmul P P') Q := by
  obtain ⟨U, V, h⟩ := h
  obtain ⟨U', V', k⟩ := k
  refine ⟨pmul U U', padd (pmul (pmul U P) V') (padd (pmul V (pmul U' P')) (pmul (pmul V V') Q)), fun x => ?_⟩
  have h1 := h x
  have h2 := k x
  simp only [pv_pmul, pv_padd]
  grind
/-- Q + W P in the place of Q -/
theorem Cop.add {P Q : List R} (W : List R) (h : Cop P Q) : Cop P (padd Q (pmul W P)) := by
  obtain ⟨U, V, h⟩ := h
  refine ⟨padd U (psm (-1) (pmul V W)), V, fun x => ?_⟩
  have := h x
  simp only [pv_pmul, pv_padd, pv_psm]
  grind
theorem Cop.scale {P Q : List R} {c : R} (hc : c ≠ 0) (h : Cop P Q) : Cop P (psm c Q) := by
  obtain ⟨U, V, h⟩ := h
  have hi := mul_inv' hc
  refine ⟨U, psm (c⁻¹) V, fun x => ?_⟩
  have := h x
  simp only [pv_psm]
  grind
theorem cop_const (P : List R) {c : R} (hc : c ≠ 0) : Cop P [c] := by
  have hi := mul_inv' hc
  refine ⟨[], [c⁻¹], fun x => ?_⟩
  simp only [pv_cons, pv_nil]
  grind
/-- with x - a, where P is not nought at a -/
theorem cop_lin {P : List R} {a : R} (h : pv P a ≠ 0) : Cop P [-a, 1] := by
  have hi := mul_inv' h
  refine ⟨[(pv P a)⁻¹], psm (-(pv P a)⁻¹) (qt P a), fun x => ?_⟩
  have := pv_qt a x P
  simp only [pv_psm, pv_cons, pv_nil]
  grind
theorem cop_lin2 {P : List R} {c d : R} (hc : c ≠ 0) (h : pv P (-d * c⁻¹) ≠ 0) : Cop P [d, c] := by
  have hi := mul_inv' hc
  refine ((cop_lin h).scale hc).ext (fun _ => rfl) fun x => ?_
  simp only [pv_psm, pv_cons, pv_nil]
  grind
/-! ### slopes -/
def dl : List R → List R
  | [] => []
  | _ :: r => padd r (0 :: dl r)
theorem pv_dl (x : R) : ∀ p, pv (dl p) x = dpv p x
  | [] => rfl
  | c :: r => by
    show pv (padd r (0 :: dl r)) x = pv r x + x * dpv r x
    rw [pv_padd, pv_cons, pv_dl x r]
    grind
theorem dpv_padd (x : R) : ∀ p q : List R, dpv (padd p q) x = dpv p x + dpv q x
  | [], q => by
    show dpv q x = 0 + dpv q x
    grind
  | a :: p, [] => by
    show dpv (a :: p) x = dpv (a :: p) x + 0
    grind
  | a :: p, b :: q => by
    show pv (padd p q) x + x * dpv (padd p q) x = (pv p x + x * dpv p x) + (pv q x + x * dpv q x)
    rw [pv_padd, dpv_padd x p q]
    grind
theorem dpv_psm (x c : R) : ∀ p : List R, dpv (psm c p) x = c * dpv p x
  | [] => by
    show (0 : R) = c * 0
    grind
  | a :: p => by
    have := dpv_psm x c p
    have h2 := pv_psm x c p
    show pv (psm c p) x + x * dpv (psm c p) x = c * (pv p x + x * dpv p x)
    rw [this, h2]
    grind
theorem dpv_pmul (x : R) : ∀ p q : List R, dpv (pmul p q) x = dpv p x * pv q x + pv p x * dpv q x
  | [], q => by
    show (0 : R) = 0 * pv q x + 0 * dpv q x
    grind
  | a :: p, q => by
    show dpv (padd (psm a q) (0 :: pmul p q)) x = (pv p x + x * dpv p x) * pv q x + (a + x * pv p x) * dpv q x
    rw [dpv_padd, dpv_psm]
    show a * dpv q x + (pv (pmul p q) x + x * dpv (pmul p q) x) = _
    rw [pv_pmul, dpv_pmul x p q]
    grind
theorem dpv_zero : ∀ p : List R, (∀ k, coef p k = 0) → ∀ x, dpv p x = 0
  | [], _, _ => rfl
  | c :: r, h, x => by
    have h1 := pv_zero r (fun k => h (k + 1)) x
    have h2 := dpv_zero r (fun k => h (k + 1)) x
    show pv r x + x * dpv r x = 0
    rw [h1, h2]
    grind
theorem dpv_ext {p q : List R} (h : ∀ x, 0 < x → pv p x = pv q x) (x : R) : dpv p x = dpv q x := by
  have := dpv_zero (padd p (psm (-1) q)) (ident _ fun y hy => by
    rw [pv_padd, pv_psm, h y hy]
    grind) x
  rw [dpv_padd, dpv_psm] at this
  grind
/-- a product has no common part with its slope, where both have none and share none -/
theorem cop_slope {A B : List R} (ha : Cop A (dl A)) (hb : Cop B (dl B)) (hab : Cop A B) : Cop (pmul A B) (dl (pmul A B)) := by
  have e : ∀ x, pv (dl (pmul A B)) x = pv (dl A) x * pv B x + pv A x * pv (dl B) x := fun x => by
    rw [pv_dl, pv_dl, pv_dl, dpv_pmul]
  have h1 : Cop A (dl (pmul A B)) := by
    have k := ((ha.symm.mul hab.symm).symm).add (dl B)
    refine k.ext (fun _ => rfl) fun x => ?_
    rw [e]
    simp only [pv_padd, pv_pmul]
    grind
  have h2 : Cop B (dl (pmul A B)) := by
    have k := ((hb.symm.mul hab).symm).add (dl A)
    refine k.ext (fun _ => rfl) fun x => ?_
    rw [e]
    simp only [pv_padd, pv_pmul]
    grind
  exact h1.mul h2
/-- a common divisor of coprimes is a constant -/
theorem cop_unit {P Q G A B : List R} (h : Cop P Q) (hp : ∀ x, 0 < x → pv P x = pv G x * pv A x) (hq : ∀ x, 0 < x → pv Q x = pv G x * pv B x) {n : Nat} (hl : G.length = n + 1) (hn : coef G n ≠ 0) : n = 0 := by
  by_cases z : n = 0
  · exact z
  · exfalso
    obtain ⟨U, V, h⟩ := h
    have key := low_mul (p := [1]) (h := padd (pmul U A) (pmul V B)) (q := G) (n := n) hl hn (fun k hk => coef_ge _ _ (by simp; omega)) fun x hx => by
      have := h x
      rw [hp x hx, hq x hx] at this
      simp only [pv_padd, pv_pmul, pv_cons, pv_nil]
      grind
    have := key 0
    have := one_pos
    have e : coef [(1 : R)] 0 = 1 := rfl
    grind
/-! ### factors and cubes -/
theorem rib (p : List Int) (x : R) : pv (ri p) x = ipv p x := rfl
theorem b_r {f : Fac} (h : f.ok) : (0 : R) < (f.b : R) := by
  have := int_lt.mpr (show (0 : Int) < f.b by have := h.b1; omega)
  rwa [int_zero] at this
/-- nought at no fraction -/
theorem quad_rat {f : Fac} (h : f.ok) (he : f.e ≠ 0) {X Y : Int} (hY : Y ≠ 0) {x : R} (hx : (Y : R) * x = (X : R)) : ipv f.p x ≠ 0 := fun z => by
  rw [fac_val, if_neg he] at z
  have e : ((f.b * X - f.u * Y : Int) : R) = (Y : R) * f.q x := by
    unfold Fac.q
    rw [int_sub, int_mul, int_mul, ← hx]
    grind
  have : (((f.b * X - f.u * Y) * (f.b * X - f.u * Y) : Int) : R) = ((f.e * (Y * Y) : Int) : R) := by
    rw [int_mul, e, int_mul, int_mul]
    grind
  exact hY (nsq_irr (h.sq he) (int_inj.mp this))
theorem cop_fac {f g : Fac} (hf : f.ok) (hg : g.ok) (hs : f.s ≠ g.s) : Cop (ri f.p) (ri g.p) := by
  have bf := b_r hf
  have bg := b_r hg
  have nb : (f.b : R) ≠ 0 := by grind
  have ng : (g.b : R) ≠ 0 := by grind
  have nf := fac_nz hf
  have nn := fac_nz hg
  by_cases ef : f.e = 0
  · by_cases eg : g.e = 0
    · -- both of degree one
      have c0 : ((f.b * g.u - g.b * f.u : Int) : R) ≠ 0 := int_ne.mpr fun z => hs (shr_prop (a := g.b) (c := f.b) nf.1 nn.1 nf.2 nn.2 (by have := hg.b1; omega) (by have := hf.b1; omega) fun k => by
        unfold Fac.p
        rw [if_pos ef, if_pos eg]
        match k with
        | 0 => show g.b * -f.u = f.b * -g.u; grind
        | 1 => show g.b * f.b = f.b * g.b; grind
        | k + 2 => show g.b * 0 = f.b * 0; omega)
      have hi := mul_inv' c0
      refine ⟨[(g.b : R) * ((f.b * g.u - g.b * f.u : Int) : R)⁻¹], [-(f.b : R) * ((f.b * g.u - g.b * f.u : Int) : R)⁻¹], fun x => ?_⟩
      rw [rib, rib, fac_val, fac_val, if_pos ef, if_pos eg]
      have e1 : ((f.b * g.u - g.b * f.u : Int) : R) = (f.b : R) * g.u - (g.b : R) * f.u := by rw [int_sub, int_mul, int_mul]
      rw [e1] at hi ⊢
      unfold Fac.q
      simp only [pv_cons, pv_nil]
      grind
    · -- f of degree one
      have fi := mul_inv' nb
      have h0 : pv (ri g.p) (-(((-f.u : Int) : R)) * (f.b : R)⁻¹) ≠ 0 := quad_rat hg eg (X := f.u) (Y := f.b) (by have := hf.b1; omega) (by rw [int_neg]; grind)
      have := cop_lin2 nb h0
      refine this.symm.ext (fun x => ?_) fun _ => rfl
      unfold Fac.p
      rw [if_pos ef]
      rfl
  · by_cases eg : g.e = 0
    · have gi := mul_inv' ng
      have h0 : pv (ri f.p) (-(((-g.u : Int) : R)) * (g.b : R)⁻¹) ≠ 0 := quad_rat hf ef (X := g.u) (Y := g.b) (by have := hg.b1; omega) (by rw [int_neg]; grind)
      have := cop_lin2 ng h0
      refine this.ext (fun _ => rfl) fun x => ?_
      unfold Fac.p
      rw [if_pos eg]
      rfl
    · -- both of degree two: g.b^2 f less f.b^2 g is of degree one at most
      obtain ⟨c1, h1⟩ : ∃ c1 : Int, c1 = g.b * g.b * (-2 * f.b * f.u) - f.b * f.b * (-2 * g.b * g.u) := ⟨_, rfl⟩
      obtain ⟨c0, h0⟩ : ∃ c0 : Int, c0 = g.b * g.b * (f.u * f.u - f.e) - f.b * f.b * (g.u * g.u - g.e) := ⟨_, rfl⟩
      have hv : ∀ x, ((g.b * g.b : Int) : R) * ipv f.p x = ((f.b * f.b : Int) : R) * ipv g.p x + ((c0 : R) + x * (c1 : R)) := fun x => by
        unfold Fac.p
        rw [if_neg ef, if_neg eg, h0, h1]
        simp only [ipv_cons, ipv_nil, int_sub, int_mul]
        grind
      have gg : ((g.b * g.b : Int) : R) ≠ 0 := int_ne.mpr (Int.mul_ne_zero (by have := hg.b1; omega) (by have := hg.b1; omega))
      have key : ∀ W : List R, (∀ x, pv W x = (c0 : R) + x * (c1 : R)) → Cop (ri g.p) W → Cop (ri f.p) (ri g.p) := fun W hW hc => by
        have := ((hc.add [((f.b * f.b : Int) : R)]).scale (c := ((g.b * g.b : Int) : R)⁻¹) (fun z => by
          have := mul_inv' gg
          rw [z] at this
          have := one_pos
          grind)).symm
        refine this.ext (fun x => ?_) fun _ => rfl
        have hx := hv x
        have gi := mul_inv' gg
        simp only [pv_psm, pv_padd, pv_pmul, hW, pv_cons, pv_nil]
        rw [rib, rib]
        grind
      by_cases z1 : c1 = 0
      · by_cases z0 : c0 = 0
        · exfalso
          refine hs (shr_prop (a := g.b * g.b) (c := f.b * f.b) nf.1 nn.1 nf.2 nn.2 (Int.mul_pos (by have := hg.b1; omega) (by have := hg.b1; omega)) (Int.mul_pos (by have := hf.b1; omega) (by have := hf.b1; omega)) fun k => ?_)
          unfold Fac.p
          rw [if_neg ef, if_neg eg]
          match k with
          | 0 => show g.b * g.b * (f.u * f.u - f.e) = f.b * f.b * (g.u * g.u - g.e); omega
          | 1 => show g.b * g.b * (-2 * f.b * f.u) = f.b * f.b * (-2 * g.b * g.u); omega
          | 2 => show g.b * g.b * (f.b * f.b) = f.b * f.b * (g.b * g.b); grind
          | k + 3 => show g.b * g.b * 0 = f.b * f.b * 0; omega
        · refine key [(c0 : R)] (fun x => ?_) (cop_const _ (int_ne.mpr z0))
          rw [z1, int_zero]
          simp only [pv_cons, pv_nil]
      · have n1 : (c1 : R) ≠ 0 := int_ne.mpr z1
        have i1 := mul_inv' n1
        refine key [(c0 : R), (c1 : R)] (fun x => by simp only [pv_cons, pv_nil]; grind) (cop_lin2 n1 (quad_rat hg eg (X := -c0) (Y := c1) z1 ?_))
        rw [int_neg]
        grind
/-- a factor has none in common with its slope -/
theorem cop_fac_self {f : Fac} (h : f.ok) : Cop (ri f.p) (dl (ri f.p)) := by
  have nb : (f.b : R) ≠ 0 := by have := b_r h; grind
  have bi := mul_inv' nb
  by_cases e : f.e = 0
  · refine (cop_const _ nb).ext (fun _ => rfl) fun x => ?_
    rw [pv_dl]
    unfold Fac.p
    rw [if_pos e]
    show (f.b : R) + x * 0 + x * (0 + x * 0) = (f.b : R) + x * 0
    grind
  · have ne : (f.e : R) ≠ 0 := int_ne.mpr e
    have ei := mul_inv' ne
    have h2 : (2 : R) ≠ 0 := by have := one_pos; grind
    have i2 := mul_inv' h2
    refine ⟨[-(f.e : R)⁻¹], psm ((f.e : R)⁻¹ * (2 : R)⁻¹ * (f.b : R)⁻¹) [-(f.u : R), (f.b : R)], fun x => ?_⟩
    have hd : pv (dl (ri f.p)) x = 2 * f.b * f.q x := by
      rw [pv_dl, ← ipv_slp]
      unfold Fac.p Fac.q
      rw [if_neg e]
      show ipv [1 * (-2 * f.b * f.u), (1 + 1) * (f.b * f.b)] x = _
      simp only [ipv_cons, ipv_nil, int_mul]
      have e2 : ((-2 : Int) : R) = -2 := by
        rw [show (-2 : Int) = -(2 : Int) from rfl, int_neg]
        rfl
      have e3 : ((1 + 1 : Int) : R) = 2 := rfl
      rw [e2, e3, int_one]
      grind
    rw [hd, rib, fac_val, if_neg e]
    unfold Fac.q
    simp only [pv_psm, pv_cons, pv_nil]
    grind
end
end Qd
set_option Elab.async false
set_option linter.all false
set_option maxRecDepth 100000
set_option maxHeartbeats 4000000
/-! Cb: numbers a + b t + c t t, t a third root of 2 to 7. -/
namespace Qd
open Rl Pd Mt86
noncomputable section
structure Cb where
  a : Int
  b : Int
  c : Int
  m : Int
structure Cb.ok (u : Cb) : Prop where
  a1 : -9 ≤ u.a
  a2 : u.a ≤ 9
  b1 : -3 ≤ u.b
  b2 : u.b ≤ 3
  c1 : -3 ≤ u.c
  c2 : u.c ≤ 3
  m1 : 2 ≤ u.m
  m2 : u.m ≤ 7
  nz : ¬ (u.b = 0 ∧ u.c = 0)
def Cb.p (u : Cb) : List Int := [-Ir86.nr u.a u.b u.c u.m, 3 * u.a * u.a - 3 * u.m * u.b * u.c, -3 * u.a, 1]
def Cb.v (u : Cb) (t : R) : R := vl t u.a u.b u.c
def Cb.way (u : Cb) (x d : Int) : Int := Ir86.nr (u.a * d - x) (u.b * d) (u.c * d) u.m
theorem cb_way_vl (u : Cb) (t : R) (x d : Int) : vl t ((u.a * d - x : Int) : R) ((u.b * d : Int) : R) ((u.c * d : Int) : R) = (d : R) * u.v t - x := by
  unfold Cb.v vl
  rw [int_sub, int_mul, int_mul, int_mul]
  grind
theorem ipv_cb (u : Cb) (x : R) : ipv u.p x = -nm ((u.a : R) - x) u.b u.c u.m := by
  unfold Cb.p nm
  rw [ipv_cons, ipv_cons, ipv_cons, ipv_cons, ipv_nil]
  unfold Ir86.nr
  simp only [int_sub, int_add, int_mul, int_neg]
  have e3 : ((3 : Int) : R) = 3 := rfl
  rw [e3, int_one]
  grind
section
variable {t : R} {u : Cb} (ht : t * t * t = (u.m : R)) (hu : u.ok)
include ht hu
theorem cb_pos (x d : Int) : 0 < u.way x d ↔ (x : R) < (d : R) * u.v t := by
  have := pos_iff ht hu.m1 hu.m2 (u.a * d - x) (u.b * d) (u.c * d)
  rw [cb_way_vl] at this
  show 0 < Ir86.nr _ _ _ _ ↔ _
  rw [← this]
  constructor <;> intro h <;> grind
theorem cb_neg (x d : Int) : u.way x d < 0 ↔ (d : R) * u.v t < (x : R) := by
  have := neg_iff ht hu.m1 hu.m2 (u.a * d - x) (u.b * d) (u.c * d)
  rw [cb_way_vl] at this
  show Ir86.nr _ _ _ _ < 0 ↔ _
  rw [← this]
  constructor <;> intro h <;> grind
theorem cb_ne (x d : Int) (hd : d ≠ 0) : (d : R) * u.v t ≠ (x : R) := fun z => by
  have p1 := cb_pos ht hu x d
  have p2 := cb_neg ht hu x d
  rw [z] at p1 p2
  have q1 : ¬ 0 < u.way x d := fun w => by have := p1.mp w; grind
  have q2 : ¬ u.way x d < 0 := fun w => by have := p2.mp w; grind
  obtain ⟨_, h2, h3⟩ := sg_zero ht hu.m1 hu.m2 (show Ir86.nr (u.a * d - x) (u.b * d) (u.c * d) u.m = 0 by
    have : u.way x d = 0 := by omega
    exact this)
  rcases Int.mul_eq_zero.mp h2 with b0 | b0
  · rcases Int.mul_eq_zero.mp h3 with c0 | c0
    · exact hu.nz ⟨b0, c0⟩
    · exact hd c0
  · exact hd b0
variable (h0 : 0 < t)
include h0
theorem cb_qd (x : R) : 0 < qd t ((u.a : R) - x) u.b u.c := by
  have := qd_nn t ((u.a : R) - x) u.b u.c
  by_cases z : qd t ((u.a : R) - x) u.b u.c = 0
  · exfalso
    unfold qd at z
    have s1 := sq_nn ((u.a : R) - x - u.b * t)
    have s2 := sq_nn ((u.b : R) * t - u.c * (t * t))
    have s3 := sq_nn ((u.c : R) * (t * t) - ((u.a : R) - x))
    have w : ((u.b : R) * t - u.c * (t * t)) * ((u.b : R) * t - u.c * (t * t)) = 0 := by grind
    have w2 : (u.b : R) * t - u.c * (t * t) = 0 := by
      rcases mul_zero_or w with w | w <;> exact w
    have w3 : (u.b : R) = u.c * t := by
      rcases mul_zero_or (show ((u.b : R) - u.c * t) * t = 0 by grind) with w | w
      · grind
      · grind
    have e : vl t ((u.b : Int) : R) ((-u.c : Int) : R) ((0 : Int) : R) = 0 := by
      unfold vl
      rw [int_neg, int_zero]
      grind
    have hn : Ir86.nr u.b (-u.c) 0 u.m = 0 := by
      have p1 := (pos_iff ht hu.m1 hu.m2 u.b (-u.c) 0)
      have p2 := (neg_iff ht hu.m1 hu.m2 u.b (-u.c) 0)
      rw [e] at p1 p2
      have q1 : ¬ 0 < Ir86.nr u.b (-u.c) 0 u.m := fun z => absurd (p1.mpr z) (by grind)
      have q2 : ¬ Ir86.nr u.b (-u.c) 0 u.m < 0 := fun z => absurd (p2.mpr z) (by grind)
      omega
    have := Ir86.irr _ _ _ _ hu.m1 hu.m2 hn
    exact hu.nz ⟨this.1, by omega⟩
  · grind
theorem cb_val (x : R) : 2 * ipv u.p x = (x - u.v t) * qd t ((u.a : R) - x) u.b u.c := by
  rw [ipv_cb]
  have e := nm_eq ht ((u.a : R) - x) u.b u.c
  have ev : vl t ((u.a : R) - x) u.b u.c = u.v t - x := by
    unfold Cb.v vl
    grind
  rw [ev] at e
  grind
theorem cb_root (x : R) : ipv u.p x = 0 ↔ x = u.v t := by
  have e := cb_val ht hu h0 x
  have q := cb_qd ht hu h0 x
  constructor
  · intro z
    rw [z] at e
    rcases mul_zero_or (show (x - u.v t) * qd t ((u.a : R) - x) u.b u.c = 0 by grind) with w | w
    · grind
    · grind
  · intro z
    rw [z] at e
    grind
/-- nought at no fraction -/
theorem cb_rat {X Y : Int} (hY : Y ≠ 0) {x : R} (hx : (Y : R) * x = (X : R)) : ipv u.p x ≠ 0 := fun z => by
  rw [cb_root ht hu h0] at z
  rw [z] at hx
  exact cb_ne ht hu X Y hY hx
theorem cop_cb_fac {f : Fac} (hf : f.ok) : Cop (ri u.p) (ri f.p) := by
  have nb : (f.b : R) ≠ 0 := by have := b_r hf; grind
  have bi := mul_inv' nb
  by_cases e : f.e = 0
  · refine (cop_lin2 nb (cb_rat ht hu h0 (X := f.u) (Y := f.b) (by have := hf.b1; omega) (x := -((-f.u : Int) : R) * (f.b : R)⁻¹) (by rw [int_neg]; grind))).ext (fun _ => rfl) fun x => ?_
    unfold Fac.p
    rw [if_pos e]
    rfl
  · -- b^4 u.p is (b^2 x - l0) f.p and something of degree one at most
    obtain ⟨B, hB⟩ : ∃ B : Int, B = f.b * f.b := ⟨_, rfl⟩
    obtain ⟨q1, hq1⟩ : ∃ q1 : Int, q1 = -2 * f.b * f.u := ⟨_, rfl⟩
    obtain ⟨q0, hq0⟩ : ∃ q0 : Int, q0 = f.u * f.u - f.e := ⟨_, rfl⟩
    obtain ⟨l0, hl0⟩ : ∃ l0 : Int, l0 = B * (-3 * u.a) - q1 := ⟨_, rfl⟩
    obtain ⟨r1, hr1⟩ : ∃ r1 : Int, r1 = B * (B * (3 * u.a * u.a - 3 * u.m * u.b * u.c) - q0) - q1 * l0 := ⟨_, rfl⟩
    obtain ⟨r0, hr0⟩ : ∃ r0 : Int, r0 = B * B * -Ir86.nr u.a u.b u.c u.m - q0 * l0 := ⟨_, rfl⟩
    have hfp : ∀ x, ipv f.p x = (q0 : R) + x * ((q1 : R) + x * (B : R)) := fun x => by
      unfold Fac.p
      rw [if_neg e, ← hB, ← hq1, ← hq0]
      simp only [ipv_cons, ipv_nil]
      grind
    have hup : ∀ x, ((B * B : Int) : R) * ipv u.p x = ((l0 : R) + x * (B : R)) * ipv f.p x + ((r0 : R) + x * (r1 : R)) := fun x => by
      rw [hfp]
      unfold Cb.p
      simp only [ipv_cons, ipv_nil]
      generalize Ir86.nr u.a u.b u.c u.m = N at *
      rw [hr0, hr1, hl0]
      simp only [int_sub, int_mul, int_neg]
      have e3 : ((3 : Int) : R) = 3 := rfl
      rw [e3, int_one]
      grind
    have B0 : B ≠ 0 := by rw [hB]; exact Int.mul_ne_zero (by have := hf.b1; omega) (by have := hf.b1; omega)
    have BB : ((B * B : Int) : R) ≠ 0 := int_ne.mpr (Int.mul_ne_zero B0 B0)
    have Br : (B : R) ≠ 0 := int_ne.mpr B0
    have Bi := mul_inv' BB
    have Bri := mul_inv' Br
    have key : ∀ W : List R, (∀ x, pv W x = (r0 : R) + x * (r1 : R)) → Cop (ri f.p) W → Cop (ri u.p) (ri f.p) := fun W hW hc => by
      have := ((hc.add [(l0 : R), (B : R)]).scale (c := ((B * B : Int) : R)⁻¹) (fun z => by
        rw [z] at Bi
        have := one_pos
        grind)).symm
      refine this.ext (fun x => ?_) fun _ => rfl
      have hx := hup x
      simp only [pv_psm, pv_padd, pv_pmul, hW, pv_cons, pv_nil]
      rw [rib, rib]
      grind
    by_cases z1 : r1 = 0
    · by_cases z0 : r0 = 0
      · exfalso
        refine cb_rat ht hu h0 (X := -l0) (Y := B) B0 (x := -(l0 : R) * (B : R)⁻¹) (by rw [int_neg]; grind) ?_
        have := hup (-(l0 : R) * (B : R)⁻¹)
        rw [z1, z0, int_zero] at this
        have h2 : (l0 : R) + -(l0 : R) * (B : R)⁻¹ * (B : R) = 0 := by grind
        rw [h2] at this
        rcases mul_zero_or (show ((B * B : Int) : R) * ipv u.p (-(l0 : R) * (B : R)⁻¹) = 0 by grind) with w | w
        · exact absurd w BB
        · exact w
      · refine key [(r0 : R)] (fun x => ?_) (cop_const _ (int_ne.mpr z0))
        rw [z1, int_zero]
        simp only [pv_cons, pv_nil]
    · have n1 : (r1 : R) ≠ 0 := int_ne.mpr z1
      have i1 := mul_inv' n1
      refine key [(r0 : R), (r1 : R)] (fun x => by simp only [pv_cons, pv_nil]; grind) (cop_lin2 n1 (quad_rat hf e (X := -r0) (Y := r1) z1 ?_))
      rw [int_neg]
      grind
theorem cop_cb_self : Cop (ri u.p) (dl (ri u.p)) := by
  have e3 : ((3 : Int) : R) = 3 := rfl
  have hd : ∀ x, pv (dl (ri u.p)) x = 3 * ((x - u.a) * (x - u.a) - u.m * u.b * u.c) := fun x => by
    rw [pv_dl, ← ipv_slp]
    show ipv [1 * (3 * u.a * u.a - 3 * u.m * u.b * u.c), (1 + 1) * (-3 * u.a), (1 + 1 + 1) * 1] x = _
    simp only [ipv_cons, ipv_nil, int_mul, int_sub]
    have e4 : ((-3 : Int) : R) = -3 := by
      rw [show (-3 : Int) = -(3 : Int) from rfl, int_neg]
      rfl
    have e5 : ((1 + 1 : Int) : R) = 2 := rfl
    have e6 : ((1 + 1 + 1 : Int) : R) = 3 := rfl
    rw [e3, e4, e5, e6, int_one]
    grind
  have hp : ∀ x, ipv u.p x = (x - u.a) * (x - u.a) * (x - u.a) - 3 * u.m * u.b * u.c * (x - u.a) - (u.m * u.b * u.b * u.b + u.m * u.m * u.c * u.c * u.c) := fun x => by
    rw [ipv_cb]
    unfold nm
    grind
  -- 3 p is (x - a) p' less 6 m b c (x - a) less 3 (m b^3 + m^2 c^3)
  obtain ⟨g, hg⟩ : ∃ g : Int, g = -2 * u.m * u.b * u.c := ⟨_, rfl⟩
  obtain ⟨k, hk⟩ : ∃ k : Int, k = -(u.m * u.b * u.b * u.b + u.m * u.m * u.c * u.c * u.c) - g * u.a := ⟨_, rfl⟩
  have gr : (g : R) = -2 * u.m * u.b * u.c := by
    rw [hg]
    simp only [int_mul]
    have e2 : ((-2 : Int) : R) = -2 := by
      rw [show (-2 : Int) = -(2 : Int) from rfl, int_neg]
      rfl
    rw [e2]
  have kr : (k : R) = -(u.m * u.b * u.b * u.b + u.m * u.m * u.c * u.c * u.c) - g * u.a := by
    rw [hk]
    simp only [int_sub, int_neg, int_add, int_mul]
  have i3 := mul_inv' (a := (3 : R)) (by have := one_pos; grind)
  have hv : ∀ x, ipv u.p x = (3 : R)⁻¹ * (x - u.a) * pv (dl (ri u.p)) x + ((k : R) + x * (g : R)) := fun x => by
    rw [hp, hd, kr, gr]
    grind
  have key : ∀ W : List R, (∀ x, pv W x = (k : R) + x * (g : R)) → Cop (dl (ri u.p)) W → Cop (ri u.p) (dl (ri u.p)) := fun W hW hc => by
    refine (hc.add (psm ((3 : R)⁻¹) [-(u.a : R), 1])).symm.ext (fun x => ?_) fun _ => rfl
    have hx := hv x
    simp only [pv_psm, pv_padd, pv_pmul, hW, pv_cons, pv_nil]
    rw [rib]
    grind
  by_cases z1 : g = 0
  · have z0 : k ≠ 0 := fun z => by
      have hbc : u.b = 0 ∨ u.c = 0 := by
        rw [hg] at z1
        rcases Int.mul_eq_zero.mp z1 with w | w
        · rcases Int.mul_eq_zero.mp w with w | w
          · have := hu.m1
            omega
          · exact .inl w
        · exact .inr w
      rw [z1] at hk
      have hm := hu.m1
      rcases hbc with w | w
      · rw [w] at hk
        have hc : u.c ≠ 0 := fun q => hu.nz ⟨w, q⟩
        have := Int.mul_ne_zero (Int.mul_ne_zero (Int.mul_ne_zero (Int.mul_ne_zero (show u.m ≠ 0 by omega) (show u.m ≠ 0 by omega)) hc) hc) hc
        grind
      · rw [w] at hk
        have hb : u.b ≠ 0 := fun q => hu.nz ⟨q, w⟩
        have := Int.mul_ne_zero (Int.mul_ne_zero (Int.mul_ne_zero (show u.m ≠ 0 by omega) hb) hb) hb
        grind
    refine key [(k : R)] (fun x => ?_) (cop_const _ (int_ne.mpr z0))
    rw [z1, int_zero]
    simp only [pv_cons, pv_nil]
  · have n1 : (g : R) ≠ 0 := int_ne.mpr z1
    have i1 := mul_inv' n1
    refine key [(k : R), (g : R)] (fun x => by simp only [pv_cons, pv_nil]; grind) (cop_lin2 n1 fun z => ?_)
    rw [hd] at z
    -- then b^3 = m c^3
    have hw : (-(k : R) * (g : R)⁻¹ - u.a) * (g : R) = u.m * u.b * u.b * u.b + u.m * u.m * u.c * u.c * u.c := by
      rw [kr]
      grind
    have hsq : ((u.m * u.b * u.b * u.b + u.m * u.m * u.c * u.c * u.c : Int) : R) * ((u.m * u.b * u.b * u.b + u.m * u.m * u.c * u.c * u.c : Int) : R) = ((u.m * u.b * u.c * (g * g) : Int) : R) := by
      simp only [int_add, int_mul]
      rw [← hw]
      have z2 : (-(k : R) * (g : R)⁻¹ - u.a) * (-(k : R) * (g : R)⁻¹ - u.a) - u.m * u.b * u.c = 0 := by
        rcases mul_zero_or z with w | w
        · have := one_pos
          grind
        · exact w
      grind
    rw [← int_mul] at hsq
    have hi := int_inj.mp hsq
    have hd0 : (u.b * u.b * u.b - u.m * u.c * u.c * u.c) * (u.b * u.b * u.b - u.m * u.c * u.c * u.c) = 0 := by
      have hm := hu.m1
      have : (u.m * u.m) * ((u.b * u.b * u.b - u.m * u.c * u.c * u.c) * (u.b * u.b * u.b - u.m * u.c * u.c * u.c)) = 0 := by
        rw [hg] at hi
        grind
      rcases Int.mul_eq_zero.mp this with w | w
      · exact absurd w (Int.mul_ne_zero (by omega) (by omega))
      · exact w
    have hd1 : u.b * u.b * u.b - u.m * u.c * u.c * u.c = 0 := by
      rcases Int.mul_eq_zero.mp hd0 with w | w <;> exact w
    have := Ir86.irr u.b (-u.c) 0 u.m hu.m1 hu.m2 (by unfold Ir86.nr; grind)
    exact hu.nz ⟨this.1, by omega⟩
end
end
end Qd
set_option Elab.async false
set_option linter.all false
set_option maxRecDepth 100000
set_option maxHeartbeats 4000000
/-! Sp: spots: cubes and roots of factors; the sign of a spot less a fraction; how far spots lie apart. -/
namespace Qd
open Rl Pd Mt86
noncomputable section
/-- the root of e -/
def rs (e : Int) : R := if h : 0 ≤ e then (sqrt_ex e h).choose else 0
theorem rs_spec {e : Int} (h : 0 ≤ e) : 0 ≤ rs e ∧ rs e * rs e = (e : R) := by
  unfold rs
  rw [dif_pos h]
  exact (sqrt_ex e h).choose_spec
inductive Spot where
  | cub (u : Cb)
  | quad (u e b sg : Int)
def Spot.v (t : R) : Spot → R
  | .cub u => u.v t
  | .quad u e b sg => ((u : R) + sg * rs e) * (b : R)⁻¹
def sure (s d : Int) : Int := if d < 0 ∨ d * d < s then 1 else if s < d * d then -1 else 0
def Spot.way (x d : Int) : Spot → Int
  | .cub u => u.way x d
  | .quad u e b sg => if 0 < sg then sure (e * d * d) (b * x - u * d) else 0 - sure (e * d * d) (0 - (b * x - u * d))
structure QOk (u e b sg : Int) : Prop where
  u1 : -11 ≤ u
  u2 : u ≤ 11
  b1 : 1 ≤ b
  b2 : b ≤ 3
  e1 : 0 ≤ e
  e2 : e ≤ 35
  sq : e ≠ 0 → Nsq e
  sg : sg = 1 ∨ sg = -1
def Spot.ok (m : Int) : Spot → Prop
  | .cub u => u.ok ∧ u.m = m
  | .quad u e b sg => QOk u e b sg
theorem sqr_lt {x y : R} (hx : 0 ≤ x) (hy : 0 ≤ y) : x * x < y * y ↔ x < y := by
  constructor
  · intro h
    by_cases c : x < y
    · exact c
    · have := mul_nn (show 0 ≤ x - y by grind) (show 0 ≤ x + y by grind)
      grind
  · intro h
    have := mul_pos (show 0 < y - x by grind) (show 0 < x + y by grind)
    grind
theorem sure_spec {s d : Int} {r : R} (hr : 0 ≤ r) (h : r * r = (s : R)) : (0 < sure s d ↔ (d : R) < r) ∧ (sure s d < 0 ↔ r < (d : R)) := by
  unfold sure
  by_cases c1 : d < 0
  · have d0 : (d : R) < 0 := by
      have := int_lt.mpr c1
      rwa [int_zero] at this
    rw [if_pos (.inl c1)]
    exact ⟨⟨fun _ => by grind, fun _ => by omega⟩, ⟨fun z => by omega, fun z => by grind⟩⟩
  · have d0 : (0 : R) ≤ (d : R) := by
      have := int_le.mpr (show (0 : Int) ≤ d by omega)
      rwa [int_zero] at this
    have e1 : d * d < s ↔ (d : R) < r := by
      rw [← sqr_lt d0 hr, h, ← int_mul, int_lt]
    have e2 : s < d * d ↔ r < (d : R) := by
      rw [← sqr_lt hr d0, h, ← int_mul, int_lt]
    by_cases c2 : d * d < s
    · rw [if_pos (.inr c2)]
      have := e1.mp c2
      exact ⟨⟨fun _ => this, fun _ => by omega⟩, ⟨fun z => by omega, fun z => by grind⟩⟩
    · rw [if_neg (fun z => z.elim c1 c2)]
      by_cases c3 : s < d * d
      · rw [if_pos c3]
        have := e2.mp c3
        exact ⟨⟨fun z => by omega, fun z => by grind⟩, ⟨fun _ => this, fun _ => by omega⟩⟩
      · rw [if_neg c3]
        exact ⟨⟨fun z => by omega, fun z => absurd (e1.mpr z) c2⟩, ⟨fun z => by omega, fun z => absurd (e2.mpr z) c3⟩⟩
theorem q_b {u e b sg : Int} (h : QOk u e b sg) : (0 : R) < (b : R) := by
  have := int_lt.mpr (show (0 : Int) < b by have := h.b1; omega)
  rwa [int_zero] at this
theorem quad_v {u e b sg : Int} (h : QOk u e b sg) (t : R) : (b : R) * (Spot.quad u e b sg).v t = (u : R) + sg * rs e := by
  have nb : (b : R) ≠ 0 := by have := q_b h; grind
  have := mul_inv' nb
  show (b : R) * (((u : R) + sg * rs e) * (b : R)⁻¹) = _
  grind
/-- the way of a spot is the sign of the spot less x / d -/
theorem way_spec {t : R} {m : Int} (ht : t * t * t = (m : R)) {s : Spot} (hs : s.ok m) {x d : Int} (hd : 0 < d) : (0 < s.way x d ↔ (x : R) < (d : R) * s.v t) ∧ (s.way x d < 0 ↔ (d : R) * s.v t < (x : R)) := by
  cases s with
  | cub u =>
    obtain ⟨hu, hm⟩ := hs
    have ht' : t * t * t = (u.m : R) := by rw [hm]; exact ht
    exact ⟨cb_pos ht' hu x d, cb_neg ht' hu x d⟩
  | quad u e b sg =>
    have h : QOk u e b sg := hs
    obtain ⟨r0, rr⟩ := rs_spec h.e1
    have dr : (0 : R) < (d : R) := by
      have := int_lt.mpr hd
      rwa [int_zero] at this
    have br := q_b h
    have hv := quad_v h t
    have q0 : 0 ≤ rs e * (d : R) := mul_nn r0 (by grind)
    have qq : (rs e * (d : R)) * (rs e * (d : R)) = ((e * d * d : Int) : R) := by
      rw [int_mul, int_mul, ← rr]
      grind
    -- b times (x < d v)
    have kk : (b : R) * ((d : R) * (Spot.quad u e b sg).v t - x) = sg * (rs e * (d : R)) - ((b : R) * x - (u : R) * d) := by
      have : (b : R) * ((d : R) * (Spot.quad u e b sg).v t - x) = (d : R) * ((b : R) * (Spot.quad u e b sg).v t) - b * x := by grind
      rw [this, hv]
      grind
    obtain ⟨V, hV⟩ : ∃ V, (d : R) * (Spot.quad u e b sg).v t = V := ⟨_, rfl⟩
    obtain ⟨Q, hQ⟩ : ∃ Q, (sg : R) * (rs e * (d : R)) = Q := ⟨_, rfl⟩
    obtain ⟨L, hL⟩ : ∃ L, (b : R) * x - (u : R) * d = L := ⟨_, rfl⟩
    rw [hV, hQ, hL] at kk
    rw [hV]
    have e1 : (x : R) < V ↔ L < Q := by
      constructor
      · intro z
        have := mul_pos br (show 0 < V - x by grind)
        grind
      · intro z
        by_cases c : (x : R) < V
        · exact c
        · have := mul_nn (show 0 ≤ (b : R) by grind) (show 0 ≤ (x : R) - V by grind)
          grind
    have e2 : V < (x : R) ↔ Q < L := by
      constructor
      · intro z
        have := mul_pos br (show 0 < (x : R) - V by grind)
        grind
      · intro z
        by_cases c : V < (x : R)
        · exact c
        · have := mul_nn (show 0 ≤ (b : R) by grind) (show 0 ≤ V - (x : R) by grind)
          grind
    have dc : ((b * x - u * d : Int) : R) = L := by rw [int_sub, int_mul, int_mul, hL]
    rw [e1, e2]
    rcases h.sg with rfl | rfl
    · obtain ⟨s1, s2⟩ := sure_spec (d := b * x - u * d) q0 qq
      have hw : Spot.way x d (.quad u e b 1) = sure (e * d * d) (b * x - u * d) := by
        show (if (0 : Int) < 1 then sure (e * d * d) (b * x - u * d) else 0 - sure (e * d * d) (0 - (b * x - u * d))) = _
        exact if_pos (by omega)
      rw [int_one] at hQ
      rw [hw, s1, s2, dc]
      exact ⟨⟨fun z => by grind, fun z => by grind⟩, ⟨fun z => by grind, fun z => by grind⟩⟩
    · obtain ⟨s1, s2⟩ := sure_spec (d := 0 - (b * x - u * d)) q0 qq
      have dc2 : ((0 - (b * x - u * d) : Int) : R) = -L := by
        rw [int_sub, dc, int_zero]
        grind
      have m1 : ((-1 : Int) : R) = -1 := by
        rw [show (-1 : Int) = -(1 : Int) from rfl, int_neg]
        rfl
      have hw : Spot.way x d (.quad u e b (-1)) = 0 - sure (e * d * d) (0 - (b * x - u * d)) := by
        show (if (0 : Int) < -1 then sure (e * d * d) (b * x - u * d) else 0 - sure (e * d * d) (0 - (b * x - u * d))) = _
        exact if_neg (by omega)
      rw [m1] at hQ
      rw [hw]
      rw [dc2] at s1 s2
      constructor
      · rw [show (0 < 0 - sure (e * d * d) (0 - (b * x - u * d))) ↔ (sure (e * d * d) (0 - (b * x - u * d)) < 0) from ⟨fun z => by omega, fun z => by omega⟩, s2]
        exact ⟨fun z => by grind, fun z => by grind⟩
      · rw [show (0 - sure (e * d * d) (0 - (b * x - u * d)) < 0) ↔ (0 < sure (e * d * d) (0 - (b * x - u * d))) from ⟨fun z => by omega, fun z => by omega⟩, s1]
        exact ⟨fun z => by grind, fun z => by grind⟩
/-! ### bounds -/
theorem sq_bd {x B : R} (h1 : -B ≤ x) (h2 : x ≤ B) : x * x ≤ B * B := by
  have := mul_nn (show 0 ≤ B - x by grind) (show 0 ≤ B + x by grind)
  grind
theorem ibd {x : Int} (B : Nat) (h1 : -(B : Int) ≤ x) (h2 : x ≤ B) : -((B : Int) : R) ≤ (x : R) ∧ (x : R) ≤ ((B : Int) : R) := by
  refine ⟨?_, int_le.mpr h2⟩
  have := int_le.mpr h1
  rwa [int_neg] at this
theorem rs_bd {e : Int} (h1 : 0 ≤ e) (h2 : e ≤ 35) : 0 ≤ rs e ∧ rs e ≤ 6 := by
  obtain ⟨r0, rr⟩ := rs_spec h1
  refine ⟨r0, ?_⟩
  have he := int_le.mpr (show e ≤ 36 by omega)
  have e36 : ((36 : Int) : R) = 36 := rfl
  rw [e36, ← rr] at he
  by_cases c : rs e ≤ 6
  · exact c
  · have := mul_pos (show 0 < rs e - 6 by grind) (show 0 < rs e + 6 by grind)
    grind
theorem t_bd {t : R} {m : Int} (ht : t * t * t = (m : R)) (h2 : m ≤ 7) : t < 2 := by
  have h7 : (m : R) ≤ 7 := int_le.mpr h2
  by_cases z : t < 2
  · exact z
  · have p1 := mul_nn (show 0 ≤ t - 2 by grind) (show 0 ≤ t - 2 by grind)
    have p2 := mul_nn (show 0 ≤ t by grind) p1
    have p3 := mul_nn (show 0 ≤ t by grind) (show 0 ≤ t - 2 by grind)
    grind
theorem tb {t x B : R} (h0 : 0 < t) (h2 : t < 2) (h3 : -B ≤ x) (h4 : x ≤ B) : -(2 * B) ≤ x * t ∧ x * t ≤ 2 * B := by
  have p1 := mul_nn (show 0 ≤ B - x by grind) (show 0 ≤ t by grind)
  have p2 := mul_nn (show 0 ≤ B + x by grind) (show 0 ≤ t by grind)
  have p3 := mul_nn (show 0 ≤ B by grind) (show 0 ≤ 2 - t by grind)
  grind
theorem ttb {t x B : R} (h0 : 0 < t) (h2 : t < 2) (h3 : -B ≤ x) (h4 : x ≤ B) : -(4 * B) ≤ x * (t * t) ∧ x * (t * t) ≤ 4 * B := by
  have a := tb h0 h2 h3 h4
  have b := tb h0 h2 a.1 a.2
  have e : x * (t * t) = x * t * t := by grind
  rw [e]
  grind
theorem int_far {x : Int} (h : x ≠ 0) : (1 : R) ≤ (x : R) ∨ (x : R) ≤ -1 := by
  by_cases c : 0 < x
  · left
    have := int_le.mpr (show (1 : Int) ≤ x by omega)
    exact this
  · right
    have := int_le.mpr (show x ≤ (-1 : Int) by omega)
    have m1 : ((-1 : Int) : R) = -1 := by
      rw [show (-1 : Int) = -(1 : Int) from rfl, int_neg]
      rfl
    rwa [m1] at this
/-- |x| is at least 1 / N -/
def Far (N : R) (x : R) : Prop := 1 ≤ N * x ∨ 1 ≤ N * (-x)
theorem Far.neg {N x : R} (h : Far N x) : Far N (-x) := by
  rcases h with h | h
  · right; grind
  · left; exact h
theorem Far.mono {N M x : R} (h : Far N x) (h0 : 0 ≤ N) (l : N ≤ M) : Far M x := by
  rcases h with h | h
  · left
    by_cases c : 0 ≤ x
    · have := mul_nn (show 0 ≤ M - N by grind) c
      grind
    · have := mul_nn h0 (show 0 ≤ -x by grind)
      have := one_pos
      grind
  · right
    by_cases c : 0 ≤ -x
    · have := mul_nn (show 0 ≤ M - N by grind) c
      grind
    · have := mul_nn h0 (show 0 ≤ x by grind)
      have := one_pos
      grind
/-- of a product that is far from nought, with one bounded -/
theorem far_of_mul {x y B N : R} (hB : 0 < B) (h1 : -B ≤ y) (h2 : y ≤ B) (h : Far N (x * y)) (hN : 0 ≤ N) : Far (N * B) x := by
  have key : ∀ z w : R, -B ≤ w → w ≤ B → 1 ≤ N * (z * w) → 1 ≤ N * B * z ∨ 1 ≤ N * B * (-z) := fun z w w1 w2 hz => by
    by_cases c : 0 ≤ z
    · left
      have := mul_nn (mul_nn hN c) (show 0 ≤ B - w by grind)
      grind
    · right
      have := mul_nn (mul_nn hN (show 0 ≤ -z by grind)) (show 0 ≤ B + w by grind)
      grind
  rcases h with h | h
  · exact key x y h1 h2 h
  · have := key x (-y) (by grind) (by grind) (by grind)
    exact this
theorem far_scale {c x N : R} (hc : 0 < c) (h : Far N (c * x)) : Far (N * c) x := by
  rcases h with h | h
  · left; grind
  · right; grind
theorem far_int {x : Int} (h : x ≠ 0) : Far 1 (x : R) := by
  rcases int_far h with z | z
  · left; grind
  · right; grind
/-- a value of a norm that is not nought is far from it -/
theorem far_norm {t : R} {m : Int} (ht : t * t * t = (m : R)) (m1 : 2 ≤ m) (m2 : m ≤ 7) {x y z : Int} (hne : Ir86.nr x y z m ≠ 0) {B : R} (hB : 0 < B) (h : qd t x y z ≤ B) : Far B (vl t x y z) := by
  have en := nm_eq ht (x : R) y z
  rw [nm_cast] at en
  have hq := qd_nn t (x : R) y z
  have h2 : (0 : R) < 2 := by have := one_pos; grind
  rcases int_far hne with w | w
  · left
    by_cases c : 0 ≤ vl t (x : R) y z
    · have := mul_nn c (show 0 ≤ B - qd t (x : R) y z by grind)
      grind
    · have := mul_nn (show 0 ≤ -vl t (x : R) y z by grind) hq
      grind
  · right
    by_cases c : 0 ≤ -vl t (x : R) y z
    · have := mul_nn c (show 0 ≤ B - qd t (x : R) y z by grind)
      grind
    · have := mul_nn (show 0 ≤ vl t (x : R) y z by grind) hq
      grind
theorem qd_bd {t x y z A : R} (h1 : -A ≤ x) (h2 : x ≤ A) (h3 : -A ≤ y * t) (h4 : y * t ≤ A) (h5 : -A ≤ z * (t * t)) (h6 : z * (t * t) ≤ A) : qd t x y z ≤ 12 * (A * A) := by
  unfold qd
  have a := sq_bd (x := x - y * t) (B := 2 * A) (by grind) (by grind)
  have b := sq_bd (x := y * t - z * (t * t)) (B := 2 * A) (by grind) (by grind)
  have c := sq_bd (x := z * (t * t) - x) (B := 2 * A) (by grind) (by grind)
  grind
end
end Qd
set_option Elab.async false
set_option linter.all false
set_option maxRecDepth 100000
set_option maxHeartbeats 4000000
/-! Sq: how far spots lie apart. -/
namespace Qd
open Rl Pd Mt86
noncomputable section
theorem nr_lit (n : Nat) : (((n : Nat) : Int) : R) = ((n : Int) : R) := rfl
theorem ab2i {a b A B : Int} (h1 : -A ≤ a) (h2 : a ≤ A) (h3 : -B ≤ b) (h4 : b ≤ B) : -(A * B) ≤ a * b ∧ a * b ≤ A * B := by
  have p1 := Int.mul_nonneg (show 0 ≤ A - a by omega) (show 0 ≤ B - b by omega)
  have p2 := Int.mul_nonneg (show 0 ≤ A + a by omega) (show 0 ≤ B + b by omega)
  have p3 := Int.mul_nonneg (show 0 ≤ A - a by omega) (show 0 ≤ B + b by omega)
  have p4 := Int.mul_nonneg (show 0 ≤ A + a by omega) (show 0 ≤ B - b by omega)
  constructor <;> grind
/-- products of bounded reals -/
theorem mb {x y A B : R} (h1 : -A ≤ x) (h2 : x ≤ A) (h3 : -B ≤ y) (h4 : y ≤ B) : -(A * B) ≤ x * y ∧ x * y ≤ A * B := by
  have p1 := mul_nn (show 0 ≤ A - x by grind) (show 0 ≤ B - y by grind)
  have p2 := mul_nn (show 0 ≤ A + x by grind) (show 0 ≤ B + y by grind)
  have p3 := mul_nn (show 0 ≤ A - x by grind) (show 0 ≤ B + y by grind)
  have p4 := mul_nn (show 0 ≤ A + x by grind) (show 0 ≤ B - y by grind)
  constructor <;> grind
/-- the norm of a difference of two roots is not nought -/
theorem n4_ne {f g : Fac} (hf : f.ok) (hg : g.ok) (hs : f.s ≠ g.s) : ((f.u * g.b - g.u * f.b) * (f.u * g.b - g.u * f.b) + g.b * g.b * f.e - f.b * f.b * g.e) * ((f.u * g.b - g.u * f.b) * (f.u * g.b - g.u * f.b) + g.b * g.b * f.e - f.b * f.b * g.e) - 4 * ((f.u * g.b - g.u * f.b) * (f.u * g.b - g.u * f.b)) * (g.b * g.b) * f.e ≠ 0 := fun z => by
  obtain ⟨A, hA⟩ : ∃ A, f.u * g.b - g.u * f.b = A := ⟨_, rfl⟩
  rw [hA] at z
  have fb := hf.b1
  have gb := hg.b1
  have nf := fac_nz hf
  have ng := fac_nz hg
  by_cases ef : f.e = 0
  · rw [ef] at z
    have z2 : (A * A - f.b * f.b * g.e) * (A * A - f.b * f.b * g.e) = 0 := by grind
    have z3 : A * A = g.e * (f.b * f.b) := by
      rcases Int.mul_eq_zero.mp z2 with w | w <;> grind
    by_cases eg : g.e = 0
    · rw [eg] at z3
      have a0 : A = 0 := by
        rcases Int.mul_eq_zero.mp (show A * A = 0 by omega) with w | w <;> exact w
      refine hs (shr_prop (a := g.b) (c := f.b) nf.1 ng.1 nf.2 ng.2 (by omega) (by omega) fun k => ?_)
      unfold Fac.p
      rw [if_pos ef, if_pos eg]
      match k with
      | 0 => show g.b * -f.u = f.b * -g.u; grind
      | 1 => show g.b * f.b = f.b * g.b; grind
      | k + 2 => show g.b * 0 = f.b * 0; omega
    · have := nsq_irr (hg.sq eg) z3
      omega
  · have z3 : (A * A + g.b * g.b * f.e - f.b * f.b * g.e) * (A * A + g.b * g.b * f.e - f.b * f.b * g.e) = f.e * ((2 * A * g.b) * (2 * A * g.b)) := by grind
    have a0 := nsq_irr (hf.sq ef) z3
    have a1 : A = 0 := by
      rcases Int.mul_eq_zero.mp a0 with w | w
      · omega
      · omega
    rw [a1] at z3
    have z4 : g.b * g.b * f.e = f.b * f.b * g.e := by
      have : (g.b * g.b * f.e - f.b * f.b * g.e) * (g.b * g.b * f.e - f.b * f.b * g.e) = 0 := by grind
      rcases Int.mul_eq_zero.mp this with w | w <;> omega
    have eg : g.e ≠ 0 := fun w => by
      rw [w] at z4
      have := Int.mul_ne_zero (Int.mul_ne_zero (show g.b ≠ 0 by omega) (show g.b ≠ 0 by omega)) ef
      omega
    refine hs (shr_prop (a := g.b * g.b) (c := f.b * f.b) nf.1 ng.1 nf.2 ng.2 (Int.mul_pos (by omega) (by omega)) (Int.mul_pos (by omega) (by omega)) fun k => ?_)
    unfold Fac.p
    rw [if_neg ef, if_neg eg]
    have hu : g.b * f.u = f.b * g.u := by grind
    match k with
    | 0 => show g.b * g.b * (f.u * f.u - f.e) = f.b * f.b * (g.u * g.u - g.e); grind
    | 1 => show g.b * g.b * (-2 * f.b * f.u) = f.b * f.b * (-2 * g.b * g.u); grind
    | 2 => show g.b * g.b * (f.b * f.b) = f.b * f.b * (g.b * g.b); grind
    | k + 3 => show g.b * g.b * 0 = f.b * f.b * 0; omega
theorem qok {f : Fac} (h : f.ok) (e0 : 0 ≤ f.e) {sg : Int} (hs : sg = 1 ∨ sg = -1) : QOk f.u f.e f.b sg := ⟨h.u1, h.u2, h.b1, h.b2, e0, h.e2, h.sq, hs⟩
theorem sg_r {sg : Int} (h : sg = 1 ∨ sg = -1) : (sg : R) = 1 ∨ (sg : R) = -1 := by
  rcases h with rfl | rfl
  · exact .inl rfl
  · right
    rw [show (-1 : Int) = -(1 : Int) from rfl, int_neg]
    rfl
theorem far_bb {f g : Fac} (hf : f.ok) (hg : g.ok) {x N : R} (hN : 0 ≤ N) (h : Far N ((f.b : R) * (g.b : R) * x)) : Far (9 * N) x := by
  have bf := b_r hf
  have bg := b_r hg
  have f3 : (f.b : R) ≤ 3 := int_le.mpr hf.b2
  have g3 : (g.b : R) ≤ 3 := int_le.mpr hg.b2
  have hp := mul_pos bf bg
  refine (far_scale hp h).mono (mul_nn hN (by grind)) ?_
  have := mb (x := (f.b : R)) (A := 3) (y := (g.b : R)) (B := 3) (by grind) f3 (by grind) g3
  have := mul_nn hN (show 0 ≤ 9 - (f.b : R) * g.b by grind)
  grind
/-- roots of two factors -/
theorem sep_qq {f g : Fac} (hf : f.ok) (hg : g.ok) (ef : 0 ≤ f.e) (eg : 0 ≤ g.e) (hs : f.s ≠ g.s) {s1 s2 : Int} (h1 : s1 = 1 ∨ s1 = -1) (h2 : s2 = 1 ∨ s2 = -1) (t : R) : Far 9600000 ((Spot.quad f.u f.e f.b s1).v t - (Spot.quad g.u g.e g.b s2).v t) := by
  have v1 := quad_v (qok hf ef h1) t
  have v2 := quad_v (qok hg eg h2) t
  generalize (Spot.quad f.u f.e f.b s1).v t = V1 at *
  generalize (Spot.quad g.u g.e g.b s2).v t = V2 at *
  obtain ⟨r0, rr⟩ := rs_spec ef
  obtain ⟨q0, qq⟩ := rs_spec eg
  have rb := rs_bd ef hf.e2
  have qb := rs_bd eg hg.e2
  generalize rs f.e = r at *
  generalize rs g.e = q at *
  have ne := far_int (n4_ne hf hg hs)
  have bf := b_r hf
  have bg := b_r hg
  have f3 : (f.b : R) ≤ 3 := int_le.mpr hf.b2
  have g3 : (g.b : R) ≤ 3 := int_le.mpr hg.b2
  have fu := ibd (x := f.u) 11 hf.u1 hf.u2
  have gu := ibd (x := g.u) 11 hg.u1 hg.u2
  have n11 : (((11 : Nat) : Int) : R) = 11 := rfl
  rw [n11] at fu gu
  obtain ⟨p, hp⟩ : ∃ p, (g.b : R) * r = p := ⟨_, rfl⟩
  obtain ⟨w, hw⟩ : ∃ w, (f.b : R) * q = w := ⟨_, rfl⟩
  obtain ⟨A, hA⟩ : ∃ A, (f.u : R) * g.b - (g.u : R) * f.b = A := ⟨_, rfl⟩
  have pb := mb (x := (g.b : R)) (A := 3) (y := r) (B := 6) (by grind) g3 (by grind) rb.2
  have wb := mb (x := (f.b : R)) (A := 3) (y := q) (B := 6) (by grind) f3 (by grind) qb.2
  have a1 := mb (x := (f.u : R)) (A := 11) (y := (g.b : R)) (B := 3) fu.1 fu.2 (by grind) g3
  have a2 := mb (x := (g.u : R)) (A := 11) (y := (f.b : R)) (B := 3) gu.1 gu.2 (by grind) f3
  rw [hp] at pb
  rw [hw] at wb
  have Ab : -66 ≤ A ∧ A ≤ 66 := by
    rw [← hA]
    constructor <;> grind
  have e4 : ((((f.u * g.b - g.u * f.b) * (f.u * g.b - g.u * f.b) + g.b * g.b * f.e - f.b * f.b * g.e) * ((f.u * g.b - g.u * f.b) * (f.u * g.b - g.u * f.b) + g.b * g.b * f.e - f.b * f.b * g.e) - 4 * ((f.u * g.b - g.u * f.b) * (f.u * g.b - g.u * f.b)) * (g.b * g.b) * f.e : Int) : R) = (A + p - w) * ((A + p + w) * ((A - p - w) * (A - p + w))) := by
    simp only [int_sub, int_add, int_mul]
    rw [hA, ← rr, ← qq]
    have e4 : ((4 : Int) : R) = 4 := rfl
    rw [e4, ← hp, ← hw]
    grind
  rw [e4] at ne
  have t1 := mb (x := A - p - w) (A := 102) (y := A - p + w) (B := 102) (by grind) (by grind) (by grind) (by grind)
  have t2 := mb (x := A + p - w) (A := 102) (y := A + p + w) (B := 102) (by grind) (by grind) (by grind) (by grind)
  have hdiff : (f.b : R) * (g.b : R) * (V1 - V2) = A + s1 * p - s2 * w := by
    have : (f.b : R) * (g.b : R) * (V1 - V2) = g.b * (f.b * V1) - f.b * (g.b * V2) := by grind
    rw [this, v1, v2, ← hA, ← hp, ← hw]
    grind
  have o := one_pos
  have fin : Far (1061208 : R) (A + s1 * p - s2 * w) := by
    rcases sg_r h1 with k1 | k1 <;> rcases sg_r h2 with k2 | k2 <;> rw [k1, k2]
    · have y := mb (x := A + p + w) (A := 102) (y := (A - p - w) * (A - p + w)) (B := 10404) (by grind) (by grind) (by grind) (by grind)
      have := far_of_mul (x := A + p - w) (y := (A + p + w) * ((A - p - w) * (A - p + w))) (B := 1061208) (N := 1) (by grind) (by grind) (by grind) ne (by grind)
      rw [show A + 1 * p - 1 * w = A + p - w by grind]
      exact this.mono (by grind) (by grind)
    · have y := mb (x := A + p - w) (A := 102) (y := (A - p - w) * (A - p + w)) (B := 10404) (by grind) (by grind) (by grind) (by grind)
      have := far_of_mul (x := A + p + w) (y := (A + p - w) * ((A - p - w) * (A - p + w))) (B := 1061208) (N := 1) (by grind) (by grind) (by grind) (by rw [show (A + p + w) * ((A + p - w) * ((A - p - w) * (A - p + w))) = (A + p - w) * ((A + p + w) * ((A - p - w) * (A - p + w))) by grind]; exact ne) (by grind)
      rw [show A + 1 * p - -1 * w = A + p + w by grind]
      exact this.mono (by grind) (by grind)
    · have y := mb (x := A - p + w) (A := 102) (y := (A + p - w) * (A + p + w)) (B := 10404) (by grind) (by grind) (by grind) (by grind)
      have := far_of_mul (x := A - p - w) (y := (A - p + w) * ((A + p - w) * (A + p + w))) (B := 1061208) (N := 1) (by grind) (by grind) (by grind) (by rw [show (A - p - w) * ((A - p + w) * ((A + p - w) * (A + p + w))) = (A + p - w) * ((A + p + w) * ((A - p - w) * (A - p + w))) by grind]; exact ne) (by grind)
      rw [show A + -1 * p - 1 * w = A - p - w by grind]
      exact this.mono (by grind) (by grind)
    · have y := mb (x := A - p - w) (A := 102) (y := (A + p - w) * (A + p + w)) (B := 10404) (by grind) (by grind) (by grind) (by grind)
      have := far_of_mul (x := A - p + w) (y := (A - p - w) * ((A + p - w) * (A + p + w))) (B := 1061208) (N := 1) (by grind) (by grind) (by grind) (by rw [show (A - p + w) * ((A - p - w) * ((A + p - w) * (A + p + w))) = (A + p - w) * ((A + p + w) * ((A - p - w) * (A - p + w))) by grind]; exact ne) (by grind)
      rw [show A + -1 * p - -1 * w = A - p + w by grind]
      exact this.mono (by grind) (by grind)
  rw [← hdiff] at fin
  exact (far_bb hf hg (by grind) fin).mono (by grind) (by grind)
/-- the two roots of one factor -/
theorem sep_ff {f : Fac} (hf : f.ok) (ef : 0 < f.e) (t : R) : Far 9600000 ((Spot.quad f.u f.e f.b 1).v t - (Spot.quad f.u f.e f.b (-1)).v t) := by
  have v1 := quad_v (qok hf (by omega) (.inl rfl)) t
  have v2 := quad_v (qok hf (by omega) (.inr rfl)) t
  generalize (Spot.quad f.u f.e f.b 1).v t = V1 at *
  generalize (Spot.quad f.u f.e f.b (-1)).v t = V2 at *
  obtain ⟨r0, rr⟩ := rs_spec (show 0 ≤ f.e by omega)
  have e1 := int_le.mpr (show (1 : Int) ≤ f.e by omega)
  rw [← rr, int_one] at e1
  have r1 : 1 ≤ rs f.e := by
    by_cases c : 1 ≤ rs f.e
    · exact c
    · have := mul_nn (show 0 ≤ rs f.e by grind) (show 0 ≤ 1 - rs f.e by grind)
      grind
  have bf := b_r hf
  have f3 : (f.b : R) ≤ 3 := int_le.mpr hf.b2
  have m1 : ((-1 : Int) : R) = -1 := by
    rw [show (-1 : Int) = -(1 : Int) from rfl, int_neg]
    rfl
  rw [m1] at v2
  rw [int_one] at v1
  have o := one_pos
  have hd : (f.b : R) * (V1 - V2) = 2 * rs f.e := by grind
  have : Far 1 ((f.b : R) * (V1 - V2)) := .inl (by rw [hd]; grind)
  exact (far_scale bf this).mono (by grind) (by grind)
/-- a cube and a root of a factor -/
theorem sep_cq {u : Cb} {t : R} (ht : t * t * t = (u.m : R)) (h0 : 0 < t) (hu : u.ok) {f : Fac} (hf : f.ok) (ef : 0 ≤ f.e) {sg : Int} (hs : sg = 1 ∨ sg = -1) : Far 57600000000 (u.v t - (Spot.quad f.u f.e f.b sg).v t) := by
  have v1 := quad_v (qok hf ef hs) t
  generalize (Spot.quad f.u f.e f.b sg).v t = V at *
  obtain ⟨r0, rr⟩ := rs_spec ef
  have rb := rs_bd ef hf.e2
  generalize rs f.e = r at *
  have bf := b_r hf
  have f3 : (f.b : R) ≤ 3 := int_le.mpr hf.b2
  have o := one_pos
  have t2 := t_bd ht hu.m2
  obtain ⟨p, hp⟩ : ∃ p : Int, p = f.b * u.a - f.u := ⟨_, rfl⟩
  obtain ⟨q, hq⟩ : ∃ q : Int, q = f.b * u.b := ⟨_, rfl⟩
  obtain ⟨c, hc⟩ : ∃ c : Int, c = f.b * u.c := ⟨_, rfl⟩
  obtain ⟨a1, a2, b1, b2, c1, c2, m1, m2, nz⟩ := hu
  obtain ⟨fu1, fu2, fb1, fb2, fe1, fe2, fsq⟩ := hf
  have pq := ab2i (a := f.b) (A := 3) (b := u.a) (B := 9) (by omega) fb2 a1 a2
  have qq := ab2i (a := f.b) (A := 3) (b := u.b) (B := 3) (by omega) fb2 b1 b2
  have cq := ab2i (a := f.b) (A := 3) (b := u.c) (B := 3) (by omega) fb2 c1 c2
  have pb : -38 ≤ p ∧ p ≤ 38 := by omega
  have qb : -9 ≤ q ∧ q ≤ 9 := by omega
  have cb : -9 ≤ c ∧ c ≤ 9 := by omega
  have pp := ab2i pb.1 pb.2 pb.1 pb.2
  have qc := ab2i qb.1 qb.2 cb.1 cb.2
  have qcm := ab2i qc.1 qc.2 (show -7 ≤ u.m by omega) m2
  have cc := ab2i cb.1 cb.2 cb.1 cb.2
  have ccm := ab2i cc.1 cc.2 (show -7 ≤ u.m by omega) m2
  have pq2 := ab2i pb.1 pb.2 qb.1 qb.2
  have pc := ab2i pb.1 pb.2 cb.1 cb.2
  have qq2 := ab2i qb.1 qb.2 qb.1 qb.2
  obtain ⟨X, hX⟩ : ∃ X : Int, X = p * p + 2 * (q * c * u.m) - f.e := ⟨_, rfl⟩
  obtain ⟨Y, hY⟩ : ∃ Y : Int, Y = 2 * (p * q) + c * c * u.m := ⟨_, rfl⟩
  obtain ⟨Z, hZ⟩ : ∃ Z : Int, Z = 2 * (p * c) + q * q := ⟨_, rfl⟩
  have Xb : -4000 ≤ X ∧ X ≤ 4000 := by omega
  have Yb : -2000 ≤ Y ∧ Y ≤ 2000 := by omega
  have Zb : -1000 ≤ Z ∧ Z ≤ 1000 := by omega
  have hne : Ir86.nr X Y Z u.m ≠ 0 := fun z => by
    obtain ⟨_, y0, z0⟩ := Ir86.irr X Y Z u.m m1 m2 z
    have hcq : q * q * q + u.m * (-c) * (-c) * (-c) = 0 := by
      have e1 : 2 * (p * c) = -(q * q) := by omega
      have e2 : 2 * (p * q) = -(c * c * u.m) := by omega
      grind
    have := Ir86.irr q (-c) 0 u.m m1 m2 (by unfold Ir86.nr; grind)
    have q0 : q = 0 := this.1
    have c0 : c = 0 := by omega
    refine nz ⟨?_, ?_⟩
    · rw [hq] at q0
      rcases Int.mul_eq_zero.mp q0 with w | w
      · omega
      · exact w
    · rw [hc] at c0
      rcases Int.mul_eq_zero.mp c0 with w | w
      · omega
      · exact w
  have Xr := ibd (x := X) 4000 Xb.1 Xb.2
  have Yr := ibd (x := Y) 2000 Yb.1 Yb.2
  have Zr := ibd (x := Z) 1000 Zb.1 Zb.2
  have n4 : (((4000 : Nat) : Int) : R) = 4000 := rfl
  have n2 : (((2000 : Nat) : Int) : R) = 2000 := rfl
  have n1 : (((1000 : Nat) : Int) : R) = 1000 := rfl
  rw [n4] at Xr
  rw [n2] at Yr
  rw [n1] at Zr
  have Yt := tb h0 t2 Yr.1 Yr.2
  have Zt := ttb h0 t2 Zr.1 Zr.2
  have hqd := qd_bd (t := t) (x := (X : R)) (y := (Y : R)) (z := (Z : R)) (A := 4000) Xr.1 Xr.2 (by grind) (by grind) (by grind) (by grind)
  have far := far_norm ht m1 m2 hne (B := 192000000) (by grind) (by grind)
  -- the value is (b v - u)^2 - e
  have hpR : (f.b : R) * u.a - f.u = (p : R) := by rw [hp, int_sub, int_mul]
  have hqR : (f.b : R) * u.b = (q : R) := by rw [hq, int_mul]
  have hcR : (f.b : R) * u.c = (c : R) := by rw [hc, int_mul]
  have e2 : ((2 : Int) : R) = 2 := rfl
  have hd : (f.b : R) * u.v t - f.u = (p : R) + (q : R) * t + (c : R) * (t * t) := by
    rw [← hpR, ← hqR, ← hcR]
    unfold Cb.v vl
    grind
  have hv : vl t X Y Z = ((f.b : R) * u.v t - f.u) * ((f.b : R) * u.v t - f.u) - r * r := by
    rw [hd, rr]
    unfold vl
    rw [hX, hY, hZ]
    simp only [int_sub, int_add, int_mul]
    rw [e2]
    have t4 : t * t * t * t = (u.m : R) * t := by rw [ht]
    generalize (p : R) = p at *
    generalize (q : R) = q at *
    generalize (c : R) = c at *
    have k1 : (p + q * t + c * (t * t)) * (p + q * t + c * (t * t)) = p * p + 2 * (p * q) * t + (2 * (p * c) + q * q) * (t * t) + 2 * (q * c) * (t * t * t) + c * c * (t * t * t * t) := by grind
    rw [k1, t4, ht]
    grind
  rw [hv] at far
  -- bounds of the value
  have ar := ibd (x := u.a) 9 a1 a2
  have br := ibd (x := u.b) 3 b1 b2
  have cr := ibd (x := u.c) 3 c1 c2
  have n9 : (((9 : Nat) : Int) : R) = 9 := rfl
  have n3 : (((3 : Nat) : Int) : R) = 3 := rfl
  rw [n9] at ar
  rw [n3] at br cr
  have bt := tb h0 t2 br.1 br.2
  have ct := ttb h0 t2 cr.1 cr.2
  have vb : -27 ≤ u.v t ∧ u.v t ≤ 27 := by
    unfold Cb.v vl
    constructor <;> grind
  have fu := ibd (x := f.u) 11 fu1 fu2
  have n11 : (((11 : Nat) : Int) : R) = 11 := rfl
  rw [n11] at fu
  have bv := mb (x := (f.b : R)) (A := 3) (y := u.v t) (B := 27) (by grind) f3 vb.1 vb.2
  obtain ⟨D, hD⟩ : ∃ D, (f.b : R) * u.v t - f.u = D := ⟨_, rfl⟩
  rw [hD] at far
  have Db : -92 ≤ D ∧ D ≤ 92 := by constructor <;> grind
  have hdiff : (f.b : R) * (u.v t - V) = D - sg * r := by
    have : (f.b : R) * (u.v t - V) = f.b * u.v t - f.b * V := by grind
    rw [this, v1, ← hD]
    grind
  have fin : Far (19200000000 : R) (D - sg * r) := by
    rcases sg_r hs with k | k <;> rw [k]
    · have := far_of_mul (x := D - 1 * r) (y := D + r) (B := 100) (N := 192000000) (by grind) (by grind) (by grind) (by rw [show (D - 1 * r) * (D + r) = D * D - r * r by grind]; exact far) (by grind)
      exact this.mono (by grind) (by grind)
    · have := far_of_mul (x := D - -1 * r) (y := D - r) (B := 100) (N := 192000000) (by grind) (by grind) (by grind) (by rw [show (D - -1 * r) * (D - r) = D * D - r * r by grind]; exact far) (by grind)
      exact this.mono (by grind) (by grind)
  rw [← hdiff] at fin
  exact (far_scale bf fin).mono (by grind) (by grind)
end
end Qd
set_option Elab.async false
set_option linter.all false
set_option maxRecDepth 100000
set_option maxHeartbeats 4000000
noncomputable section
namespace C87
open PySem PySem.Spec L2 Ev
def top (i : Nat) : Stmt := PySem.Challenge.pw_rootspan_k87_papers_scaled.main.body.getD i (.Pass ⟨0, 0, 0, 0⟩)
def clsBody : Stmt → List Stmt
  | .ClassDef (body := b) .. => b
  | _ => []
def mth (i j : Nat) : Stmt := (clsBody (top i)).getD j (.Pass ⟨0, 0, 0, 0⟩)

def names : List Str := (["bottom", "top", "shared", "_wall", "Ratio", "told_order", "poly", "coefficient_at", "top_at", "sign_at", "changes", "taken", "multiplied", "count", "against", "link_holds", "degree", "shrunk", "slope", "_law_gcd", "_law_shrunk", "_law_plain", "_law_shape", "_law_factor_by", "_law_mul", "_law_sure", "_law_norm", "_law_within", "_law_side", "_law_trim", "_law_divided", "_law_shared", "_law_paper_from", "_law_way", "_law_half", "_law_alone", "just_one", "_law_told", "_law_scaled", "_law_cell_at", "_law_paper", "_law_span", "_law_roots_of", "_law_product", "_law_cube_shape", "_law_factors_by", "_law_cube_by", "__init__", "plus", "minus", "times", "over", "sign", "floor", "text", "law"] : List String).map Str.ofString
def b__wall : MS := .seq (.whl (.con (.bool true)) (.seq (.pas)
    (.nil)))
    (.nil)
def c__wall : Ev.Code := ⟨⟨("_wall", none), "_wall", "_wall", defArgs (top 0), defBody (top 0), defScope (top 0), [], []⟩, ["k"], ["k"], b__wall, []⟩
def b_shared : MS := .seq (.asg 1 (.con (.int 0)))
    (.seq (.forn 2 (.var 0) (.seq (.whl (.cmp .NotEq (.var 2) (.con (.int 0))) (.seq (.asg 3 (.bin .Mod (.var 1) (.var 2)))
    (.seq (.asg 1 (.var 2))
    (.seq (.asg 2 (.var 3))
    (.nil)))))
    (.nil)))
    (.seq (.ret (.b1 .abs (.var 1)))
    (.nil)))
def c_shared : Ev.Code := ⟨⟨("shared", none), "shared", "shared", defArgs (top 6), defBody (top 6), defScope (top 6), [], []⟩, ["row"], ["row", "found", "one", "rest"], b_shared, []⟩
def b_told_order : MS := .seq (.ite (.cmp .Lt (.var 0) (.var 1)) (.seq (.ret (.neg (.con (.int 1))))
    (.nil)) (.nil))
    (.seq (.ret (.b1 .int (.cmp .Gt (.var 0) (.var 1))))
    (.nil))
def c_told_order : Ev.Code := ⟨⟨("told_order", none), "told_order", "told_order", defArgs (top 7), defBody (top 7), defScope (top 7), [], []⟩, ["left", "right"], ["left", "right"], b_told_order, []⟩
def b_Ratio___init__ : MS := .seq (.ite (.cmp .Eq (.var 2) (.con (.int 0))) (.seq (.stk)
    (.nil)) (.nil))
    (.seq (.asg 3 (.call 2 (.acons (.lst (.acons (.var 1) (.acons (.var 2) (.anil)))) (.anil))))
    (.seq (.ite (.cmp .Lt (.var 2) (.con (.int 0))) (.seq (.asg 3 (.neg (.var 3)))
    (.nil)) (.nil))
    (.seq (.fld 0 1 (.bin .FloorDiv (.var 1) (.var 3)))
    (.seq (.fld 0 0 (.bin .FloorDiv (.var 2) (.var 3)))
    (.nil)))))
def c_Ratio___init__ : Ev.Code := ⟨⟨("Ratio", some "__init__"), "__init__", "Ratio.__init__", defArgs (mth 8 0), defBody (mth 8 0), defScope (mth 8 0), [.int 1], []⟩, ["self", "top", "bottom"], ["self", "top", "bottom", "part"], b_Ratio___init__, [.int 1]⟩
def b_Ratio_plus : MS := .seq (.ex (.call 3 (.acons (.con (.int 0)) (.anil))))
    (.nil)
def c_Ratio_plus : Ev.Code := ⟨⟨("Ratio", some "plus"), "plus", "Ratio.plus", defArgs (mth 8 1), defBody (mth 8 1), defScope (mth 8 1), [], []⟩, ["self", "other"], ["self", "other"], b_Ratio_plus, []⟩
def b_Ratio_minus : MS := .seq (.ex (.call 3 (.acons (.con (.int 1)) (.anil))))
    (.nil)
def c_Ratio_minus : Ev.Code := ⟨⟨("Ratio", some "minus"), "minus", "Ratio.minus", defArgs (mth 8 2), defBody (mth 8 2), defScope (mth 8 2), [], []⟩, ["self", "other"], ["self", "other"], b_Ratio_minus, []⟩
def b_Ratio_times : MS := .seq (.ret (.make 4 (.acons (.bin .Mult (.attr 1 (.var 0)) (.attr 1 (.var 1))) (.acons (.bin .Mult (.attr 0 (.var 0)) (.attr 0 (.var 1))) (.anil)))))
    (.nil)
def c_Ratio_times : Ev.Code := ⟨⟨("Ratio", some "times"), "times", "Ratio.times", defArgs (mth 8 3), defBody (mth 8 3), defScope (mth 8 3), [], []⟩, ["self", "other"], ["self", "other"], b_Ratio_times, []⟩
def b_Ratio_over : MS := .seq (.ite (.cmp .Eq (.attr 1 (.var 1)) (.con (.int 0))) (.seq (.stk)
    (.nil)) (.nil))
    (.seq (.ret (.make 4 (.acons (.bin .Mult (.attr 1 (.var 0)) (.attr 0 (.var 1))) (.acons (.bin .Mult (.attr 0 (.var 0)) (.attr 1 (.var 1))) (.anil)))))
    (.nil))
def c_Ratio_over : Ev.Code := ⟨⟨("Ratio", some "over"), "over", "Ratio.over", defArgs (mth 8 4), defBody (mth 8 4), defScope (mth 8 4), [], []⟩, ["self", "other"], ["self", "other"], b_Ratio_over, []⟩
def b_Ratio_against : MS := .seq (.ret (.call 5 (.acons (.bin .Mult (.attr 1 (.var 0)) (.attr 0 (.var 1))) (.acons (.bin .Mult (.attr 1 (.var 1)) (.attr 0 (.var 0))) (.anil)))))
    (.nil)
def c_Ratio_against : Ev.Code := ⟨⟨("Ratio", some "against"), "against", "Ratio.against", defArgs (mth 8 5), defBody (mth 8 5), defScope (mth 8 5), [], []⟩, ["self", "other"], ["self", "other"], b_Ratio_against, []⟩
def b_Ratio_sign : MS := .seq (.ret (.call 5 (.acons (.attr 1 (.var 0)) (.acons (.con (.int 0)) (.anil)))))
    (.nil)
def c_Ratio_sign : Ev.Code := ⟨⟨("Ratio", some "sign"), "sign", "Ratio.sign", defArgs (mth 8 6), defBody (mth 8 6), defScope (mth 8 6), [], []⟩, ["self"], ["self"], b_Ratio_sign, []⟩
def b_Ratio_floor : MS := .seq (.ex (.call 3 (.acons (.con (.int 2)) (.anil))))
    (.nil)
def c_Ratio_floor : Ev.Code := ⟨⟨("Ratio", some "floor"), "floor", "Ratio.floor", defArgs (mth 8 7), defBody (mth 8 7), defScope (mth 8 7), [], []⟩, ["self"], ["self"], b_Ratio_floor, []⟩
def b_Ratio_text : MS := .seq (.ex (.call 3 (.acons (.con (.int 3)) (.anil))))
    (.nil)
def c_Ratio_text : Ev.Code := ⟨⟨("Ratio", some "text"), "text", "Ratio.text", defArgs (mth 8 8), defBody (mth 8 8), defScope (mth 8 8), [], []⟩, ["self"], ["self"], b_Ratio_text, []⟩
def b_poly : MS := .seq (.asg 1 (.b1 .len (.var 0)))
    (.seq (.whl (.and (.cmp .Gt (.var 1) (.con (.int 0))) (.cmp .Eq (.idx (.var 0) (.bin .Sub (.var 1) (.con (.int 1)))) (.con (.int 0)))) (.seq (.asg 1 (.bin .Sub (.var 1) (.con (.int 1))))
    (.nil)))
    (.seq (.ret (.slc (.var 0) (.anil) (.var 1)))
    (.nil)))
def c_poly : Ev.Code := ⟨⟨("poly", none), "poly", "poly", defArgs (top 10), defBody (top 10), defScope (top 10), [], []⟩, ["row"], ["row", "size"], b_poly, []⟩
def b_degree : MS := .seq (.ret (.bin .Sub (.b1 .len (.var 0)) (.con (.int 1))))
    (.nil)
def c_degree : Ev.Code := ⟨⟨("degree", none), "degree", "degree", defArgs (top 11), defBody (top 11), defScope (top 11), [], []⟩, ["P"], ["P"], b_degree, []⟩
def b_coefficient_at : MS := .seq (.ite (.cmp .Lt (.var 1) (.b1 .len (.var 0))) (.seq (.ret (.idx (.var 0) (.var 1)))
    (.nil)) (.nil))
    (.seq (.ret (.con (.int 0)))
    (.nil))
def c_coefficient_at : Ev.Code := ⟨⟨("coefficient_at", none), "coefficient_at", "coefficient_at", defArgs (top 12), defBody (top 12), defScope (top 12), [], []⟩, ["P", "k"], ["P", "k"], b_coefficient_at, []⟩
def b_taken : MS := .seq (.ret (.call 6 (.acons (.comp (.bin .Sub (.call 7 (.acons (.var 0) (.acons (.var 2) (.anil)))) (.call 7 (.acons (.var 1) (.acons (.var 2) (.anil))))) 2 (.rng1 (.b2 .max (.b1 .len (.var 0)) (.b1 .len (.var 1)))) (.anil)) (.anil))))
    (.nil)
def c_taken : Ev.Code := ⟨⟨("taken", none), "taken", "taken", defArgs (top 13), defBody (top 13), defScope (top 13), [], []⟩, ["P", "Q"], ["P", "Q", "k"], b_taken, []⟩
def b_multiplied : MS := .seq (.asg 2 (.bin .Mult (.lst (.acons (.con (.int 0)) (.anil))) (.bin .Add (.b1 .len (.var 0)) (.b1 .len (.var 1)))))
    (.seq (.forn 3 (.rng1 (.b1 .len (.var 0))) (.seq (.forn 4 (.rng1 (.b1 .len (.var 1))) (.seq (.sub 2 (.bin .Add (.var 3) (.var 4)) (.bin .Add (.idx (.var 2) (.bin .Add (.var 3) (.var 4))) (.bin .Mult (.idx (.var 0) (.var 3)) (.idx (.var 1) (.var 4)))))
    (.nil)))
    (.nil)))
    (.seq (.ret (.call 6 (.acons (.var 2) (.anil))))
    (.nil)))
def c_multiplied : Ev.Code := ⟨⟨("multiplied", none), "multiplied", "multiplied", defArgs (top 14), defBody (top 14), defScope (top 14), [], []⟩, ["P", "Q"], ["P", "Q", "row", "k", "i"], b_multiplied, []⟩
def b_slope : MS := .seq (.ret (.comp (.bin .Mult (.var 1) (.idx (.var 0) (.var 1))) 1 (.rng2 (.con (.int 1)) (.b1 .len (.var 0))) (.anil)))
    (.nil)
def c_slope : Ev.Code := ⟨⟨("slope", none), "slope", "slope", defArgs (top 15), defBody (top 15), defScope (top 15), [], []⟩, ["P"], ["P", "k"], b_slope, []⟩
def b_shrunk : MS := .seq (.asg 1 (.call 2 (.acons (.var 0) (.anil))))
    (.seq (.ret (.comp (.bin .FloorDiv (.var 2) (.var 1)) 2 (.var 0) (.anil)))
    (.nil))
def c_shrunk : Ev.Code := ⟨⟨("shrunk", none), "shrunk", "shrunk", defArgs (top 16), defBody (top 16), defScope (top 16), [], []⟩, ["P"], ["P", "part", "one"], b_shrunk, []⟩
def b_top_at : MS := .seq (.asg 2 (.con (.int 0)))
    (.seq (.asg 3 (.con (.int 1)))
    (.seq (.forn 4 (.rvs (.var 0)) (.seq (.asg 2 (.bin .Add (.bin .Mult (.var 2) (.attr 1 (.var 1))) (.bin .Mult (.var 4) (.var 3))))
    (.seq (.asg 3 (.bin .Mult (.var 3) (.attr 0 (.var 1))))
    (.nil))))
    (.seq (.ret (.var 2))
    (.nil))))
def c_top_at : Ev.Code := ⟨⟨("top_at", none), "top_at", "top_at", defArgs (top 17), defBody (top 17), defScope (top 17), [], []⟩, ["P", "r"], ["P", "r", "total", "scale", "one"], b_top_at, []⟩
def b_sign_at : MS := .seq (.ret (.call 5 (.acons (.call 8 (.acons (.var 0) (.acons (.var 1) (.anil)))) (.acons (.con (.int 0)) (.anil)))))
    (.nil)
def c_sign_at : Ev.Code := ⟨⟨("sign_at", none), "sign_at", "sign_at", defArgs (top 18), defBody (top 18), defScope (top 18), [], []⟩, ["P", "r"], ["P", "r"], b_sign_at, []⟩
def b_changes : MS := .seq (.asg 2 (.con (.int 0)))
    (.seq (.asg 3 (.con (.int 0)))
    (.seq (.forn 4 (.var 0) (.seq (.asg 5 (.call 9 (.acons (.var 4) (.acons (.var 1) (.anil)))))
    (.seq (.ite (.cmp .NotEq (.var 5) (.con (.int 0))) (.seq (.ite (.cmp .Eq (.var 3) (.bin .Sub (.con (.int 0)) (.var 5))) (.seq (.asg 2 (.bin .Add (.var 2) (.con (.int 1))))
    (.nil)) (.nil))
    (.seq (.asg 3 (.var 5))
    (.nil))) (.nil))
    (.nil))))
    (.seq (.ret (.var 2))
    (.nil))))
def c_changes : Ev.Code := ⟨⟨("changes", none), "changes", "changes", defArgs (top 20), defBody (top 20), defScope (top 20), [], []⟩, ["row", "r"], ["row", "r", "many", "last", "P", "sign"], b_changes, []⟩
def b_count : MS := .seq (.ret (.bin .Sub (.call 10 (.acons (.var 0) (.acons (.var 1) (.anil)))) (.call 10 (.acons (.var 0) (.acons (.var 2) (.anil))))))
    (.nil)
def c_count : Ev.Code := ⟨⟨("count", none), "count", "count", defArgs (top 21), defBody (top 21), defScope (top 21), [], []⟩, ["row", "low", "high"], ["row", "low", "high"], b_count, []⟩
def b_link_holds : MS := .seq (.ite (.or (.cmp .LtE (.idx (.var 2) (.con (.int 0))) (.con (.int 0))) (.cmp .LtE (.idx (.var 2) (.con (.int 2))) (.con (.int 0)))) (.seq (.ret (.con (.bool false)))
    (.nil)) (.nil))
    (.seq (.asg 3 (.call 12 (.acons (.lst (.acons (.idx (.var 2) (.con (.int 0))) (.anil))) (.acons (.idx (.var 0) (.var 1)) (.anil)))))
    (.seq (.asg 4 (.call 11 (.acons (.call 12 (.acons (.idx (.var 2) (.con (.int 1))) (.acons (.idx (.var 0) (.bin .Add (.var 1) (.con (.int 1)))) (.anil)))) (.acons (.call 12 (.acons (.lst (.acons (.idx (.var 2) (.con (.int 2))) (.anil))) (.acons (.idx (.var 0) (.bin .Add (.var 1) (.con (.int 2)))) (.anil)))) (.anil)))))
    (.seq (.ret (.cmp .Eq (.var 3) (.var 4)))
    (.nil))))
def c_link_holds : Ev.Code := ⟨⟨("link_holds", none), "link_holds", "link_holds", defArgs (top 23), defBody (top 23), defScope (top 23), [], []⟩, ["row", "k", "link"], ["row", "k", "link", "left", "right"], b_link_holds, []⟩
def b_just_one : MS := .seq (.asg 4 (.idx (.var 3) (.con (.int 0))))
    (.seq (.asg 5 (.idx (.var 3) (.con (.int 1))))
    (.seq (.ite (.or (.cmp .Lt (.b1 .len (.var 4)) (.con (.int 2))) (.cmp .NotEq (.b1 .len (.var 5)) (.bin .Sub (.b1 .len (.var 4)) (.con (.int 2))))) (.seq (.ret (.con (.bool false)))
    (.nil)) (.nil))
    (.seq (.ite (.or (.cmp .NotEq (.idx (.var 4) (.con (.int 0))) (.var 0)) (.or (.cmp .NotEq (.idx (.var 4) (.con (.int 1))) (.call 17 (.acons (.call 18 (.acons (.var 0) (.anil))) (.anil)))) (.cmp .NotEq (.call 16 (.acons (.idx (.var 4) (.neg (.con (.int 1)))) (.anil))) (.con (.int 0))))) (.seq (.ret (.con (.bool false)))
    (.nil)) (.nil))
    (.seq (.fort [6, 7] (.enm (.var 5)) (.seq (.ite (.not (.call 15 (.acons (.var 4) (.acons (.var 6) (.acons (.var 7) (.anil)))))) (.seq (.ret (.con (.bool false)))
    (.nil)) (.nil))
    (.nil)))
    (.seq (.ret (.and (.cmp .Lt (.meth 14 (.var 1) (.acons (.var 2) (.anil))) (.con (.int 0))) (.cmp .Eq (.call 13 (.acons (.var 4) (.acons (.var 1) (.acons (.var 2) (.anil))))) (.con (.int 1)))))
    (.nil))))))
def c_just_one : Ev.Code := ⟨⟨("just_one", none), "just_one", "just_one", defArgs (top 24), defBody (top 24), defScope (top 24), [], []⟩, ["P", "low", "high", "paper"], ["P", "low", "high", "paper", "row", "links", "k", "link"], b_just_one, []⟩
def b__law_cell_at : MS := .seq (.ite (.cmp .Lt (.var 1) (.b1 .len (.var 0))) (.seq (.ret (.idx (.var 0) (.var 1)))
    (.nil)) (.nil))
    (.seq (.ret (.con (.int 0)))
    (.nil))
def c__law_cell_at : Ev.Code := ⟨⟨("_law_cell_at", none), "_law_cell_at", "_law_cell_at", defArgs (top 26), defBody (top 26), defScope (top 26), [], []⟩, ["_law_script", "_law_k"], ["_law_script", "_law_k"], b__law_cell_at, []⟩
def b__law_within : MS := .seq (.ret (.bin .Sub (.bin .Mod (.var 0) (.bin .Add (.bin .Mult (.con (.int 2)) (.var 1)) (.con (.int 1)))) (.var 1)))
    (.nil)
def c__law_within : Ev.Code := ⟨⟨("_law_within", none), "_law_within", "_law_within", defArgs (top 27), defBody (top 27), defScope (top 27), [], []⟩, ["_law_cell", "_law_most"], ["_law_cell", "_law_most"], b__law_within, []⟩
def b__law_trim : MS := .seq (.asg 1 (.b1 .len (.var 0)))
    (.seq (.whl (.and (.cmp .Gt (.var 1) (.con (.int 0))) (.cmp .Eq (.idx (.var 0) (.bin .Sub (.var 1) (.con (.int 1)))) (.con (.int 0)))) (.seq (.asg 1 (.bin .Sub (.var 1) (.con (.int 1))))
    (.nil)))
    (.seq (.ret (.slc (.var 0) (.anil) (.var 1)))
    (.nil)))
def c__law_trim : Ev.Code := ⟨⟨("_law_trim", none), "_law_trim", "_law_trim", defArgs (top 28), defBody (top 28), defScope (top 28), [], []⟩, ["_law_row"], ["_law_row", "_law_size"], b__law_trim, []⟩
def b__law_mul : MS := .seq (.ite (.or (.cmp .Eq (.b1 .len (.var 0)) (.con (.int 0))) (.cmp .Eq (.b1 .len (.var 1)) (.con (.int 0)))) (.seq (.ret (.lst (.anil)))
    (.nil)) (.nil))
    (.seq (.asgc 2 (.comp (.con (.int 0)) 3 (.rng1 (.bin .Sub (.bin .Add (.b1 .len (.var 0)) (.b1 .len (.var 1))) (.con (.int 1)))) (.anil)))
    (.seq (.fort [4, 5] (.enm (.var 0)) (.seq (.fort [6, 7] (.enm (.var 1)) (.seq (.sub 2 (.bin .Add (.var 4) (.var 6)) (.bin .Add (.idx (.var 2) (.bin .Add (.var 4) (.var 6))) (.bin .Mult (.var 5) (.var 7))))
    (.nil)))
    (.nil)))
    (.seq (.ret (.var 2))
    (.nil))))
def c__law_mul : Ev.Code := ⟨⟨("_law_mul", none), "_law_mul", "_law_mul", defArgs (top 29), defBody (top 29), defScope (top 29), [], []⟩, ["_law_kp", "_law_kq"], ["_law_kp", "_law_kq", "_law_made", "_law_k", "_law_i", "_law_one", "_law_j", "_law_other"], b__law_mul, []⟩
def b__law_gcd : MS := .seq (.asg 0 (.b1 .abs (.var 0)))
    (.seq (.asg 1 (.b1 .abs (.var 1)))
    (.seq (.whl (.cmp .Gt (.var 1) (.con (.int 0))) (.seq (.asg 2 (.bin .Mod (.var 0) (.var 1)))
    (.seq (.asg 0 (.var 1))
    (.seq (.asg 1 (.var 2))
    (.nil)))))
    (.seq (.ret (.var 0))
    (.nil))))
def c__law_gcd : Ev.Code := ⟨⟨("_law_gcd", none), "_law_gcd", "_law_gcd", defArgs (top 30), defBody (top 30), defScope (top 30), [], []⟩, ["_law_a", "_law_b"], ["_law_a", "_law_b", "_law_rest"], b__law_gcd, []⟩
def b__law_shared : MS := .seq (.asg 1 (.con (.int 0)))
    (.seq (.forn 2 (.var 0) (.seq (.asg 1 (.call 19 (.acons (.var 1) (.acons (.var 2) (.anil)))))
    (.nil)))
    (.seq (.ret (.var 1))
    (.nil)))
def c__law_shared : Ev.Code := ⟨⟨("_law_shared", none), "_law_shared", "_law_shared", defArgs (top 31), defBody (top 31), defScope (top 31), [], []⟩, ["_law_kp"], ["_law_kp", "_law_most", "_law_one"], b__law_shared, []⟩
def b__law_shrunk : MS := .seq (.asg 1 (.con (.int 0)))
    (.seq (.forn 2 (.var 0) (.seq (.asg 1 (.call 19 (.acons (.var 1) (.acons (.var 2) (.anil)))))
    (.nil)))
    (.seq (.ite (.cmp .Eq (.var 1) (.con (.int 0))) (.seq (.ret (.lst (.anil)))
    (.nil)) (.nil))
    (.seq (.ret (.comp (.bin .FloorDiv (.var 2) (.var 1)) 2 (.var 0) (.anil)))
    (.nil))))
def c__law_shrunk : Ev.Code := ⟨⟨("_law_shrunk", none), "_law_shrunk", "_law_shrunk", defArgs (top 32), defBody (top 32), defScope (top 32), [], []⟩, ["_law_kp"], ["_law_kp", "_law_most", "_law_one"], b__law_shrunk, []⟩
def b__law_plain : MS := .seq (.asg 1 (.call 20 (.acons (.var 0) (.anil))))
    (.seq (.ite (.and (.cmp .Gt (.b1 .len (.var 1)) (.con (.int 0))) (.cmp .Lt (.idx (.var 1) (.neg (.con (.int 1)))) (.con (.int 0)))) (.seq (.ret (.comp (.bin .Sub (.con (.int 0)) (.var 2)) 2 (.var 1) (.anil)))
    (.nil)) (.nil))
    (.seq (.ret (.var 1))
    (.nil)))
def c__law_plain : Ev.Code := ⟨⟨("_law_plain", none), "_law_plain", "_law_plain", defArgs (top 33), defBody (top 33), defScope (top 33), [], []⟩, ["_law_kp"], ["_law_kp", "_law_made", "_law_one"], b__law_plain, []⟩
def b__law_factor_by : MS := .seq (.asg 2 (.bin .Sub (.bin .Mod (.bin .FloorDiv (.var 0) (.con (.int 4))) (.bin .Add (.bin .Mult (.con (.int 2)) (.var 1)) (.con (.int 1)))) (.var 1)))
    (.seq (.asg 3 (.bin .Add (.con (.int 1)) (.bin .Mod (.bin .Mod (.bin .Mult (.var 0) (.con (.int 48271))) (.con (.int 10007))) (.con (.int 3)))))
    (.seq (.asg 4 (.bin .Add (.con (.int 1)) (.bin .Mod (.bin .Mod (.bin .Mult (.var 0) (.con (.int 69621))) (.con (.int 10009))) (.con (.int 5)))))
    (.seq (.asg 5 (.bin .Add (.bin .Add (.bin .Mult (.var 4) (.var 4)) (.con (.int 1))) (.bin .Mod (.bin .Mod (.bin .Mult (.var 0) (.con (.int 16807))) (.con (.int 10037))) (.bin .Mult (.con (.int 2)) (.var 4)))))
    (.seq (.ite (.cmp .Eq (.bin .Mod (.var 0) (.con (.int 4))) (.con (.int 2))) (.seq (.ret (.tup (.acons (.var 2) (.acons (.var 5) (.acons (.var 3) (.anil))))))
    (.nil)) (.nil))
    (.seq (.ite (.cmp .Eq (.bin .Mod (.var 0) (.con (.int 4))) (.con (.int 3))) (.seq (.ret (.tup (.acons (.var 2) (.acons (.bin .Sub (.con (.int 0)) (.var 5)) (.acons (.var 3) (.anil))))))
    (.nil)) (.nil))
    (.seq (.ret (.tup (.acons (.var 2) (.acons (.con (.int 0)) (.acons (.var 3) (.anil))))))
    (.nil)))))))
def c__law_factor_by : Ev.Code := ⟨⟨("_law_factor_by", none), "_law_factor_by", "_law_factor_by", defArgs (top 34), defBody (top 34), defScope (top 34), [], []⟩, ["_law_cell", "_law_most"], ["_law_cell", "_law_most", "_law_u", "_law_b", "_law_n", "_law_e"], b__law_factor_by, []⟩
def b__law_shape : MS := .seq (.asg 1 (.idx (.var 0) (.con (.int 0))))
    (.seq (.asg 2 (.idx (.var 0) (.con (.int 2))))
    (.seq (.ite (.cmp .Eq (.idx (.var 0) (.con (.int 1))) (.con (.int 0))) (.seq (.ret (.call 21 (.acons (.lst (.acons (.bin .Sub (.con (.int 0)) (.var 1)) (.acons (.var 2) (.anil)))) (.anil))))
    (.nil)) (.nil))
    (.seq (.ret (.call 21 (.acons (.lst (.acons (.bin .Sub (.bin .Mult (.var 1) (.var 1)) (.idx (.var 0) (.con (.int 1)))) (.acons (.bin .Mult (.bin .Mult (.neg (.con (.int 2))) (.var 2)) (.var 1)) (.acons (.bin .Mult (.var 2) (.var 2)) (.anil))))) (.anil))))
    (.nil))))
def c__law_shape : Ev.Code := ⟨⟨("_law_shape", none), "_law_shape", "_law_shape", defArgs (top 35), defBody (top 35), defScope (top 35), [], []⟩, ["_law_factor"], ["_law_factor", "_law_u", "_law_b"], b__law_shape, []⟩
def b__law_factors_by : MS := .seq (.asg 3 (.lst (.anil)))
    (.seq (.asg 4 (.lst (.anil)))
    (.seq (.forn 5 (.var 0) (.seq (.asg 6 (.call 23 (.acons (.var 5) (.acons (.var 1) (.anil)))))
    (.seq (.asg 7 (.call 22 (.acons (.var 6) (.anil))))
    (.seq (.ite (.and (.cmp .NotIn (.var 7) (.var 4)) (.cmp .LtE (.bin .Sub (.b1 .len (.var 7)) (.con (.int 1))) (.var 2))) (.seq (.ex (.app 3 (.var 6)))
    (.seq (.ex (.app 4 (.var 7)))
    (.seq (.asg 2 (.bin .Add (.bin .Sub (.var 2) (.b1 .len (.var 7))) (.con (.int 1))))
    (.nil)))) (.nil))
    (.nil)))))
    (.seq (.ret (.var 3))
    (.nil))))
def c__law_factors_by : Ev.Code := ⟨⟨("_law_factors_by", none), "_law_factors_by", "_law_factors_by", defArgs (top 36), defBody (top 36), defScope (top 36), [], []⟩, ["_law_drawn", "_law_most", "_law_room"], ["_law_drawn", "_law_most", "_law_room", "_law_made", "_law_shapes", "_law_cell", "_law_one", "_law_shape_here"], b__law_factors_by, []⟩
def b__law_product : MS := .seq (.asg 1 (.lst (.acons (.con (.int 1)) (.anil))))
    (.seq (.forn 2 (.var 0) (.seq (.asg 1 (.call 24 (.acons (.var 1) (.acons (.call 22 (.acons (.var 2) (.anil))) (.anil)))))
    (.nil)))
    (.seq (.ret (.var 1))
    (.nil)))
def c__law_product : Ev.Code := ⟨⟨("_law_product", none), "_law_product", "_law_product", defArgs (top 37), defBody (top 37), defScope (top 37), [], []⟩, ["_law_factors"], ["_law_factors", "_law_made", "_law_one"], b__law_product, []⟩
def b__law_sure : MS := .seq (.ite (.or (.cmp .Lt (.var 1) (.con (.int 0))) (.cmp .Gt (.var 0) (.bin .Mult (.var 1) (.var 1)))) (.seq (.ret (.con (.int 1)))
    (.nil)) (.nil))
    (.seq (.ret (.bin .Sub (.con (.int 0)) (.b1 .int (.cmp .Lt (.var 0) (.bin .Mult (.var 1) (.var 1))))))
    (.nil))
def c__law_sure : Ev.Code := ⟨⟨("_law_sure", none), "_law_sure", "_law_sure", defArgs (top 38), defBody (top 38), defScope (top 38), [], []⟩, ["_law_square", "_law_due"], ["_law_square", "_law_due"], b__law_sure, []⟩
def b__law_side : MS := .seq (.asg 3 (.bin .Sub (.bin .Mult (.idx (.var 0) (.con (.int 2))) (.var 1)) (.bin .Mult (.idx (.var 0) (.con (.int 0))) (.var 2))))
    (.seq (.asg 4 (.bin .Mult (.bin .Mult (.idx (.var 0) (.con (.int 1))) (.var 2)) (.var 2)))
    (.seq (.ite (.cmp .Gt (.idx (.var 0) (.con (.int 3))) (.con (.int 0))) (.seq (.ret (.call 25 (.acons (.var 4) (.acons (.var 3) (.anil)))))
    (.nil)) (.nil))
    (.seq (.ret (.bin .Sub (.con (.int 0)) (.call 25 (.acons (.var 4) (.acons (.bin .Sub (.con (.int 0)) (.var 3)) (.anil))))))
    (.nil))))
def c__law_side : Ev.Code := ⟨⟨("_law_side", none), "_law_side", "_law_side", defArgs (top 39), defBody (top 39), defScope (top 39), [], []⟩, ["_law_spot", "_law_top", "_law_bottom"], ["_law_spot", "_law_top", "_law_bottom", "_law_due", "_law_square"], b__law_side, []⟩
def b__law_roots_of : MS := .seq (.asg 1 (.lst (.anil)))
    (.seq (.forn 2 (.var 0) (.seq (.ite (.cmp .GtE (.idx (.var 2) (.con (.int 1))) (.con (.int 0))) (.seq (.ex (.app 1 (.tup (.acons (.idx (.var 2) (.con (.int 0))) (.acons (.idx (.var 2) (.con (.int 1))) (.acons (.idx (.var 2) (.con (.int 2))) (.acons (.con (.int 1)) (.anil))))))))
    (.nil)) (.nil))
    (.seq (.ite (.cmp .Gt (.idx (.var 2) (.con (.int 1))) (.con (.int 0))) (.seq (.ex (.app 1 (.tup (.acons (.idx (.var 2) (.con (.int 0))) (.acons (.idx (.var 2) (.con (.int 1))) (.acons (.idx (.var 2) (.con (.int 2))) (.acons (.neg (.con (.int 1))) (.anil))))))))
    (.nil)) (.nil))
    (.nil))))
    (.seq (.ret (.var 1))
    (.nil)))
def c__law_roots_of : Ev.Code := ⟨⟨("_law_roots_of", none), "_law_roots_of", "_law_roots_of", defArgs (top 40), defBody (top 40), defScope (top 40), [], []⟩, ["_law_factors"], ["_law_factors", "_law_made", "_law_one"], b__law_roots_of, []⟩
def b__law_norm : MS := .seq (.asg 4 (.bin .Add (.bin .Mult (.bin .Mult (.var 0) (.var 0)) (.var 0)) (.bin .Mult (.bin .Mult (.bin .Mult (.var 3) (.var 1)) (.var 1)) (.var 1))))
    (.seq (.asg 4 (.bin .Add (.var 4) (.bin .Mult (.bin .Mult (.bin .Mult (.bin .Mult (.var 3) (.var 3)) (.var 2)) (.var 2)) (.var 2))))
    (.seq (.ret (.bin .Sub (.var 4) (.bin .Mult (.bin .Mult (.bin .Mult (.bin .Mult (.con (.int 3)) (.var 3)) (.var 0)) (.var 1)) (.var 2))))
    (.nil)))
def c__law_norm : Ev.Code := ⟨⟨("_law_norm", none), "_law_norm", "_law_norm", defArgs (top 41), defBody (top 41), defScope (top 41), [], []⟩, ["_law_a", "_law_b", "_law_c", "_law_m"], ["_law_a", "_law_b", "_law_c", "_law_m", "_law_cubes"], b__law_norm, []⟩
def b__law_cube_shape : MS := .seq (.asg 1 (.idx (.var 0) (.con (.int 0))))
    (.seq (.asg 2 (.idx (.var 0) (.con (.int 1))))
    (.seq (.asg 3 (.idx (.var 0) (.con (.int 2))))
    (.seq (.asg 4 (.idx (.var 0) (.con (.int 3))))
    (.seq (.ite (.and (.cmp .Eq (.var 2) (.con (.int 0))) (.cmp .Eq (.var 3) (.con (.int 0)))) (.seq (.ret (.lst (.acons (.bin .Sub (.con (.int 0)) (.var 1)) (.acons (.con (.int 1)) (.anil)))))
    (.nil)) (.nil))
    (.seq (.ret (.lst (.acons (.bin .Sub (.con (.int 0)) (.call 26 (.acons (.var 1) (.acons (.var 2) (.acons (.var 3) (.acons (.var 4) (.anil))))))) (.acons (.bin .Sub (.bin .Mult (.bin .Mult (.con (.int 3)) (.var 1)) (.var 1)) (.bin .Mult (.bin .Mult (.bin .Mult (.con (.int 3)) (.var 4)) (.var 2)) (.var 3))) (.acons (.bin .Mult (.neg (.con (.int 3))) (.var 1)) (.acons (.con (.int 1)) (.anil)))))))
    (.nil))))))
def c__law_cube_shape : Ev.Code := ⟨⟨("_law_cube_shape", none), "_law_cube_shape", "_law_cube_shape", defArgs (top 42), defBody (top 42), defScope (top 42), [], []⟩, ["_law_cube"], ["_law_cube", "_law_a", "_law_b", "_law_c", "_law_m"], b__law_cube_shape, []⟩
def b__law_cube_by : MS := .seq (.asg 3 (.call 27 (.acons (.var 0) (.acons (.con (.int 9)) (.anil)))))
    (.seq (.asg 4 (.call 27 (.acons (.var 1) (.acons (.con (.int 3)) (.anil)))))
    (.seq (.asg 5 (.call 27 (.acons (.bin .FloorDiv (.var 1) (.con (.int 7))) (.acons (.con (.int 3)) (.anil)))))
    (.seq (.ite (.and (.cmp .Eq (.var 4) (.con (.int 0))) (.cmp .Eq (.var 5) (.con (.int 0)))) (.seq (.asg 4 (.con (.int 1)))
    (.nil)) (.nil))
    (.seq (.ret (.tup (.acons (.var 3) (.acons (.var 4) (.acons (.var 5) (.acons (.idx (.lst (.acons (.con (.int 2)) (.acons (.con (.int 3)) (.acons (.con (.int 4)) (.acons (.con (.int 5)) (.acons (.con (.int 6)) (.acons (.con (.int 7)) (.anil)))))))) (.bin .Mod (.var 2) (.con (.int 6)))) (.acons (.con (.int 0)) (.anil))))))))
    (.nil)))))
def c__law_cube_by : Ev.Code := ⟨⟨("_law_cube_by", none), "_law_cube_by", "_law_cube_by", defArgs (top 43), defBody (top 43), defScope (top 43), [], []⟩, ["_law_cell", "_law_other", "_law_m"], ["_law_cell", "_law_other", "_law_m", "_law_a", "_law_b", "_law_c"], b__law_cube_by, []⟩
def b__law_way : MS := .seq (.ite (.cmp .Eq (.b1 .len (.var 0)) (.con (.int 5))) (.seq (.asg 3 (.bin .Sub (.bin .Mult (.idx (.var 0) (.con (.int 0))) (.var 2)) (.var 1)))
    (.seq (.asg 4 (.bin .Mult (.idx (.var 0) (.con (.int 1))) (.var 2)))
    (.seq (.ret (.call 26 (.acons (.var 3) (.acons (.var 4) (.acons (.bin .Mult (.idx (.var 0) (.con (.int 2))) (.var 2)) (.acons (.idx (.var 0) (.con (.int 3))) (.anil)))))))
    (.nil)))) (.nil))
    (.seq (.ret (.call 28 (.acons (.var 0) (.acons (.var 1) (.acons (.var 2) (.anil))))))
    (.nil))
def c__law_way : Ev.Code := ⟨⟨("_law_way", none), "_law_way", "_law_way", defArgs (top 44), defBody (top 44), defScope (top 44), [], []⟩, ["_law_spot", "_law_top", "_law_bottom"], ["_law_spot", "_law_top", "_law_bottom", "_law_first", "_law_second"], b__law_way, []⟩
def b__law_divided : MS := .seq (.asg 2 (.con (.int 1)))
    (.seq (.forn 3 (.rng1 (.bin .Add (.bin .Sub (.b1 .len (.var 0)) (.b1 .len (.var 1))) (.con (.int 1)))) (.seq (.asg 2 (.bin .Mult (.var 2) (.b1 .abs (.idx (.var 1) (.neg (.con (.int 1)))))))
    (.nil)))
    (.seq (.asgc 4 (.comp (.bin .Mult (.var 2) (.var 5)) 5 (.var 0) (.anil)))
    (.seq (.asgc 6 (.comp (.con (.int 0)) 3 (.rng1 (.bin .Add (.bin .Sub (.b1 .len (.var 0)) (.b1 .len (.var 1))) (.con (.int 1)))) (.anil)))
    (.seq (.forn 3 (.rvr1 (.b1 .len (.var 6))) (.seq (.sub 6 (.var 3) (.bin .FloorDiv (.idx (.var 4) (.bin .Sub (.bin .Add (.var 3) (.b1 .len (.var 1))) (.con (.int 1)))) (.idx (.var 1) (.neg (.con (.int 1))))))
    (.seq (.fort [7, 5] (.enm (.var 1)) (.seq (.sub 4 (.bin .Add (.var 3) (.var 7)) (.bin .Sub (.idx (.var 4) (.bin .Add (.var 3) (.var 7))) (.bin .Mult (.idx (.var 6) (.var 3)) (.var 5))))
    (.nil)))
    (.nil))))
    (.seq (.ret (.tup (.acons (.var 2) (.acons (.call 29 (.acons (.var 6) (.anil))) (.acons (.call 29 (.acons (.var 4) (.anil))) (.anil))))))
    (.nil))))))
def c__law_divided : Ev.Code := ⟨⟨("_law_divided", none), "_law_divided", "_law_divided", defArgs (top 45), defBody (top 45), defScope (top 45), [], []⟩, ["_law_kp", "_law_kq"], ["_law_kp", "_law_kq", "_law_factor", "_law_k", "_law_rest", "_law_one", "_law_quotient", "_law_j"], b__law_divided, []⟩
def b__law_paper_from : MS := .seq (.asg 2 (.lst (.acons (.b1 .list (.var 0)) (.acons (.b1 .list (.var 1)) (.anil)))))
    (.seq (.asg 3 (.lst (.anil)))
    (.seq (.asg 4 (.call 30 (.acons (.idx (.var 2) (.con (.int 0))) (.acons (.idx (.var 2) (.con (.int 1))) (.anil)))))
    (.seq (.whl (.cmp .Gt (.b1 .len (.idx (.var 4) (.con (.int 2)))) (.con (.int 0))) (.seq (.asg 5 (.call 31 (.acons (.idx (.var 4) (.con (.int 2))) (.anil))))
    (.seq (.ex (.app 3 (.tup (.acons (.idx (.var 4) (.con (.int 0))) (.acons (.idx (.var 4) (.con (.int 1))) (.acons (.var 5) (.anil)))))))
    (.seq (.ex (.app 2 (.comp (.bin .Sub (.con (.int 0)) (.bin .FloorDiv (.var 6) (.var 5))) 6 (.idx (.var 4) (.con (.int 2))) (.anil))))
    (.seq (.asg 4 (.call 30 (.acons (.idx (.var 2) (.neg (.con (.int 2)))) (.acons (.idx (.var 2) (.neg (.con (.int 1)))) (.anil)))))
    (.nil))))))
    (.seq (.ret (.tup (.acons (.var 2) (.acons (.var 3) (.anil)))))
    (.nil)))))
def c__law_paper_from : Ev.Code := ⟨⟨("_law_paper_from", none), "_law_paper_from", "_law_paper_from", defArgs (top 46), defBody (top 46), defScope (top 46), [], []⟩, ["_law_first", "_law_second"], ["_law_first", "_law_second", "_law_row", "_law_links", "_law_told_here", "_law_divisor", "_law_one"], b__law_paper_from, []⟩
def b__law_paper : MS := .seq (.ret (.call 32 (.acons (.var 0) (.acons (.call 20 (.acons (.slc (.compt (.bin .Mult (.var 1) (.var 2)) [1, 2] (.enm (.var 0)) (.anil)) (.con (.int 1)) (.anil)) (.anil))) (.anil)))))
    (.nil)
def c__law_paper : Ev.Code := ⟨⟨("_law_paper", none), "_law_paper", "_law_paper", defArgs (top 47), defBody (top 47), defScope (top 47), [], []⟩, ["_law_kp"], ["_law_kp", "_law_k", "_law_one"], b__law_paper, []⟩
def b__law_alone : MS := .seq (.forn 3 (.var 0) (.seq (.asg 4 (.call 33 (.acons (.var 3) (.acons (.idx (.var 2) (.con (.int 0))) (.acons (.idx (.var 2) (.con (.int 2))) (.anil))))))
    (.seq (.asg 5 (.call 33 (.acons (.var 3) (.acons (.idx (.var 2) (.con (.int 1))) (.acons (.idx (.var 2) (.con (.int 2))) (.anil))))))
    (.seq (.ite (.and (.cmp .NotEq (.var 3) (.var 1)) (.and (.cmp .GtE (.var 4) (.con (.int 0))) (.cmp .LtE (.var 5) (.con (.int 0))))) (.seq (.ret (.con (.bool false)))
    (.nil)) (.nil))
    (.nil)))))
    (.seq (.ret (.con (.bool true)))
    (.nil))
def c__law_alone : Ev.Code := ⟨⟨("_law_alone", none), "_law_alone", "_law_alone", defArgs (top 48), defBody (top 48), defScope (top 48), [], []⟩, ["_law_spots", "_law_spot", "_law_span_here"], ["_law_spots", "_law_spot", "_law_span_here", "_law_other", "_law_low", "_law_high"], b__law_alone, []⟩
def b__law_half : MS := .seq (.asg 2 (.bin .Add (.idx (.var 0) (.con (.int 0))) (.idx (.var 0) (.con (.int 1)))))
    (.seq (.ite (.cmp .LtE (.call 33 (.acons (.var 1) (.acons (.var 2) (.acons (.bin .Mult (.con (.int 2)) (.idx (.var 0) (.con (.int 2)))) (.anil))))) (.con (.int 0))) (.seq (.ret (.tup (.acons (.bin .Mult (.con (.int 2)) (.idx (.var 0) (.con (.int 0)))) (.acons (.var 2) (.acons (.bin .Mult (.con (.int 2)) (.idx (.var 0) (.con (.int 2)))) (.anil))))))
    (.nil)) (.nil))
    (.seq (.ret (.tup (.acons (.var 2) (.acons (.bin .Mult (.con (.int 2)) (.idx (.var 0) (.con (.int 1)))) (.acons (.bin .Mult (.con (.int 2)) (.idx (.var 0) (.con (.int 2)))) (.anil))))))
    (.nil)))
def c__law_half : Ev.Code := ⟨⟨("_law_half", none), "_law_half", "_law_half", defArgs (top 49), defBody (top 49), defScope (top 49), [], []⟩, ["_law_span_here", "_law_spot"], ["_law_span_here", "_law_spot", "_law_middle"], b__law_half, []⟩
def b__law_span : MS := .seq (.asg 3 (.tup (.acons (.neg (.con (.int 64))) (.acons (.con (.int 64)) (.acons (.con (.int 1)) (.anil))))))
    (.seq (.whl (.not (.call 35 (.acons (.var 0) (.acons (.var 1) (.acons (.var 3) (.anil)))))) (.seq (.asg 3 (.call 34 (.acons (.var 3) (.acons (.var 1) (.anil)))))
    (.nil)))
    (.seq (.forn 4 (.rng1 (.var 2)) (.seq (.asg 3 (.call 34 (.acons (.var 3) (.acons (.var 1) (.anil)))))
    (.nil)))
    (.seq (.ret (.var 3))
    (.nil))))
def c__law_span : Ev.Code := ⟨⟨("_law_span", none), "_law_span", "_law_span", defArgs (top 50), defBody (top 50), defScope (top 50), [], []⟩, ["_law_spots", "_law_spot", "_law_more"], ["_law_spots", "_law_spot", "_law_more", "_law_span_here", "_law_k"], b__law_span, []⟩
def b__law_scaled : MS := .seq (.asg 2 (.lst (.anil)))
    (.seq (.fort [3, 4] (.enm (.idx (.var 0) (.con (.int 0)))) (.seq (.ex (.app 2 (.comp (.bin .Mult (.var 5) (.idx (.var 1) (.var 3))) 5 (.var 4) (.anil))))
    (.nil)))
    (.seq (.asg 6 (.lst (.anil)))
    (.seq (.fort [3, 7] (.enm (.idx (.var 0) (.con (.int 1)))) (.seq (.tas [5, 9, 10] (.slc (.var 1) (.var 3) (.bin .Add (.var 3) (.con (.int 3)))))
    (.seq (.asgc 8 (.comp (.bin .Mult (.bin .Mult (.var 11) (.var 5)) (.var 10)) 11 (.idx (.var 7) (.con (.int 1))) (.anil)))
    (.seq (.ex (.app 6 (.tup (.acons (.bin .Mult (.bin .Mult (.idx (.var 7) (.con (.int 0))) (.var 9)) (.var 10)) (.acons (.var 8) (.acons (.bin .Mult (.bin .Mult (.idx (.var 7) (.con (.int 2))) (.var 5)) (.var 9)) (.anil)))))))
    (.nil)))))
    (.seq (.ret (.tup (.acons (.var 2) (.acons (.var 6) (.anil)))))
    (.nil)))))
def c__law_scaled : Ev.Code := ⟨⟨("_law_scaled", none), "_law_scaled", "_law_scaled", defArgs (top 51), defBody (top 51), defScope (top 51), [], []⟩, ["_law_paper_here", "_law_scales"], ["_law_paper_here", "_law_scales", "_law_rows", "_law_k", "_law_row", "_law_one", "_law_links", "_law_link", "_law_quotient", "_law_other", "_law_third", "_law_each"], b__law_scaled, []⟩
def b__law_told : MS := .seq (.asgc 3 (.comp (.b1 .list (.var 4)) 4 (.idx (.var 2) (.con (.int 0))) (.anil)))
    (.seq (.asgc 5 (.comp (.tup (.acons (.idx (.var 6) (.con (.int 0))) (.acons (.b1 .list (.idx (.var 6) (.con (.int 1)))) (.acons (.idx (.var 6) (.con (.int 2))) (.anil))))) 6 (.idx (.var 2) (.con (.int 1))) (.anil)))
    (.seq (.asg 7 (.b1 .list (.var 0)))
    (.seq (.asg 8 (.make 4 (.acons (.idx (.var 1) (.con (.int 0))) (.acons (.idx (.var 1) (.con (.int 2))) (.anil)))))
    (.seq (.asg 9 (.call 36 (.acons (.var 7) (.acons (.var 8) (.acons (.make 4 (.acons (.idx (.var 1) (.con (.int 1))) (.acons (.idx (.var 1) (.con (.int 2))) (.anil)))) (.acons (.tup (.acons (.var 3) (.acons (.var 5) (.anil)))) (.anil)))))))
    (.seq (.ite (.or (.cmp .NotEq (.var 7) (.var 0)) (.or (.cmp .NotEq (.var 3) (.idx (.var 2) (.con (.int 0)))) (.cmp .NotEq (.var 5) (.idx (.var 2) (.con (.int 1)))))) (.seq (.ret (.con .none))
    (.nil)) (.nil))
    (.seq (.ret (.var 9))
    (.nil)))))))
def c__law_told : Ev.Code := ⟨⟨("_law_told", none), "_law_told", "_law_told", defArgs (top 52), defBody (top 52), defScope (top 52), [], []⟩, ["_law_kp", "_law_span_here", "_law_paper_here"], ["_law_kp", "_law_span_here", "_law_paper_here", "_law_rows", "_law_row", "_law_links", "_law_link", "_law_handed", "_law_low", "_law_found"], b__law_told, []⟩
def b_law : MS := .seq (.asg 1 (.call 39 (.acons (.var 0) (.acons (.con (.int 3)) (.anil)))))
    (.seq (.asg 2 (.call 46 (.acons (.call 39 (.acons (.var 0) (.acons (.con (.int 0)) (.anil)))) (.acons (.call 39 (.acons (.var 0) (.acons (.con (.int 1)) (.anil)))) (.acons (.call 39 (.acons (.var 0) (.acons (.con (.int 2)) (.anil)))) (.anil))))))
    (.seq (.asg 3 (.call 45 (.acons (.slc (.var 0) (.con (.int 6)) (.anil)) (.acons (.con (.int 11)) (.acons (.con (.int 2)) (.anil))))))
    (.seq (.asg 4 (.call 24 (.acons (.call 43 (.acons (.var 3) (.anil))) (.acons (.call 44 (.acons (.var 2) (.anil))) (.anil)))))
    (.seq (.asg 5 (.bin .Add (.call 42 (.acons (.var 3) (.anil))) (.lst (.acons (.var 2) (.anil)))))
    (.seq (.asg 6 (.var 2))
    (.seq (.ite (.and (.cmp .Eq (.bin .Mod (.var 1) (.con (.int 3))) (.con (.int 1))) (.cmp .NotEq (.call 42 (.acons (.var 3) (.anil))) (.lst (.anil)))) (.seq (.asg 4 (.call 43 (.acons (.var 3) (.anil))))
    (.seq (.asg 5 (.call 42 (.acons (.var 3) (.anil))))
    (.seq (.asg 6 (.idx (.var 5) (.con (.int 0))))
    (.nil)))) (.nil))
    (.seq (.asg 7 (.call 41 (.acons (.var 5) (.acons (.var 6) (.acons (.bin .Mod (.bin .FloorDiv (.var 1) (.con (.int 3))) (.con (.int 9))) (.anil))))))
    (.seq (.asg 8 (.call 40 (.acons (.var 4) (.anil))))
    (.seq (.asg 9 (.call 31 (.acons (.slc (.compt (.bin .Mult (.var 10) (.var 11)) [10, 11] (.enm (.var 4)) (.anil)) (.con (.int 1)) (.anil)) (.anil))))
    (.seq (.asg 12 (.bin .Mod (.bin .FloorDiv (.var 1) (.con (.int 27))) (.con (.int 4))))
    (.seq (.asg 13 (.call 39 (.acons (.var 0) (.acons (.con (.int 4)) (.anil)))))
    (.seq (.asg 14 (.lst (.anil)))
    (.seq (.forn 10 (.rng1 (.b1 .len (.idx (.var 8) (.con (.int 0))))) (.seq (.ex (.app 14 (.bin .Add (.con (.int 1)) (.bin .Mult (.bin .Mod (.var 13) (.con (.int 5))) (.b1 .int (.cmp .Gt (.var 10) (.con (.int 1))))))))
    (.seq (.asg 13 (.bin .FloorDiv (.var 13) (.con (.int 5))))
    (.nil))))
    (.seq (.ite (.cmp .Eq (.var 12) (.con (.int 1))) (.seq (.sub 14 (.con (.int 0)) (.bin .Add (.con (.int 2)) (.bin .Mod (.call 39 (.acons (.var 0) (.acons (.con (.int 5)) (.anil)))) (.con (.int 4)))))
    (.nil)) (.nil))
    (.seq (.ite (.cmp .Eq (.var 12) (.con (.int 2))) (.seq (.sub 14 (.con (.int 1)) (.bin .Add (.con (.int 2)) (.bin .Mod (.call 39 (.acons (.var 0) (.acons (.con (.int 5)) (.anil)))) (.con (.int 4)))))
    (.nil)) (.nil))
    (.seq (.ite (.cmp .Eq (.var 12) (.con (.int 3))) (.seq (.sub 14 (.con (.int 1)) (.var 9))
    (.nil)) (.nil))
    (.seq (.asg 15 (.and (.cmp .Eq (.idx (.var 14) (.con (.int 0))) (.con (.int 1))) (.cmp .Eq (.idx (.var 14) (.con (.int 1))) (.con (.int 1)))))
    (.seq (.asg 16 (.call 38 (.acons (.var 8) (.acons (.var 14) (.anil)))))
    (.seq (.asgc 17 (.comp (.call 37 (.acons (.var 4) (.acons (.var 7) (.acons (.var 11) (.anil))))) 11 (.tup (.acons (.var 16) (.acons (.var 8) (.acons (.var 16) (.anil))))) (.anil)))
    (.seq (.forn 11 (.var 17) (.seq (.ite (.not (.isi .bool (.var 11))) (.seq (.ret (.con (.bool false)))
    (.nil)) (.nil))
    (.nil)))
    (.seq (.ret (.cmp .Eq (.var 17) (.lst (.acons (.var 15) (.acons (.con (.bool true)) (.acons (.var 15) (.anil)))))))
    (.nil))))))))))))))))))))))
def c_law : Ev.Code := ⟨⟨("law", none), "law", "law", defArgs (top 53), defBody (top 53), defScope (top 53), [], []⟩, ["_law_script"], ["_law_script", "_law_cell", "_law_cube", "_law_factors", "_law_kp", "_law_spots", "_law_spot", "_law_span_here", "_law_paper_here", "_law_steep", "_law_k", "_law_one", "_law_kind", "_law_left", "_law_scales", "_law_due", "_law_made", "_law_found"], b_law, []⟩
def t : Tb where
  names := names
  cds := [c__wall, c_shared, c_told_order, c_Ratio___init__, c_Ratio_plus, c_Ratio_minus, c_Ratio_times, c_Ratio_over, c_Ratio_against, c_Ratio_sign, c_Ratio_floor, c_Ratio_text, c_poly, c_degree, c_coefficient_at, c_taken, c_multiplied, c_slope, c_shrunk, c_top_at, c_sign_at, c_changes, c_count, c_link_holds, c_just_one, c__law_cell_at, c__law_within, c__law_trim, c__law_mul, c__law_gcd, c__law_shared, c__law_shrunk, c__law_plain, c__law_factor_by, c__law_shape, c__law_factors_by, c__law_product, c__law_sure, c__law_side, c__law_roots_of, c__law_norm, c__law_cube_shape, c__law_cube_by, c__law_way, c__law_divided, c__law_paper_from, c__law_paper, c__law_alone, c__law_half, c__law_span, c__law_scaled, c__law_told, c_law]
  fnL := [(3, 0), (2, 1), (5, 2), (6, 12), (16, 13), (7, 14), (11, 15), (12, 16), (18, 17), (17, 18), (8, 19), (9, 20), (10, 21), (13, 22), (15, 23), (36, 24), (39, 25), (27, 26), (29, 27), (24, 28), (19, 29), (31, 30), (20, 31), (21, 32), (23, 33), (22, 34), (45, 35), (43, 36), (25, 37), (28, 38), (42, 39), (26, 40), (44, 41), (46, 42), (33, 43), (30, 44), (32, 45), (40, 46), (35, 47), (34, 48), (41, 49), (38, 50), (37, 51), (55, 52)]
  mthL := [((4, 48), 4), ((4, 49), 5), ((4, 50), 6), ((4, 51), 7), ((4, 14), 8), ((4, 52), 9), ((4, 53), 10), ((4, 54), 11)]
  mkL := [(4, (3, true))]
  clsL := [4]
  attL := [(4, 1), (4, 0)]
  cstI := []
  cstS := []
theorem X__wall : ∃ F : Nat → FSem, ∀ n, F n = c__wall.sem (defSem (tab t.lw n) 1 b__wall) := ⟨_, fun _ => rfl⟩
def S__wall : Nat → FSem := X__wall.choose
theorem Y__wall (n : Nat) : S__wall n = c__wall.sem (defSem (tab t.lw n) 1 b__wall) := X__wall.choose_spec n
theorem E__wall {n : Nat} {ds : List D} {ob : List OE} (h : ds.length = 1 := by rfl) : S__wall n ds ob = defSem (tab t.lw n) 1 b__wall ds ob := by rw [Y__wall]; exact sem_eq h
@[simp] theorem fn__wall (n : Nat) : (tab t.lw (n + 1)).fn 3 = some (S__wall n) := by rw [Y__wall]; rfl
theorem X_shared : ∃ F : Nat → FSem, ∀ n, F n = c_shared.sem (defSem (tab t.lw n) 4 b_shared) := ⟨_, fun _ => rfl⟩
def S_shared : Nat → FSem := X_shared.choose
theorem Y_shared (n : Nat) : S_shared n = c_shared.sem (defSem (tab t.lw n) 4 b_shared) := X_shared.choose_spec n
theorem E_shared {n : Nat} {ds : List D} {ob : List OE} (h : ds.length = 1 := by rfl) : S_shared n ds ob = defSem (tab t.lw n) 4 b_shared ds ob := by rw [Y_shared]; exact sem_eq h
@[simp] theorem fn_shared (n : Nat) : (tab t.lw (n + 1)).fn 2 = some (S_shared n) := by rw [Y_shared]; rfl
theorem X_told_order : ∃ F : Nat → FSem, ∀ n, F n = c_told_order.sem (defSem (tab t.lw n) 2 b_told_order) := ⟨_, fun _ => rfl⟩
def S_told_order : Nat → FSem := X_told_order.choose
theorem Y_told_order (n : Nat) : S_told_order n = c_told_order.sem (defSem (tab t.lw n) 2 b_told_order) := X_told_order.choose_spec n
theorem E_told_order {n : Nat} {ds : List D} {ob : List OE} (h : ds.length = 2 := by rfl) : S_told_order n ds ob = defSem (tab t.lw n) 2 b_told_order ds ob := by rw [Y_told_order]; exact sem_eq h
@[simp] theorem fn_told_order (n : Nat) : (tab t.lw (n + 1)).fn 5 = some (S_told_order n) := by rw [Y_told_order]; rfl
theorem X_Ratio___init__ : ∃ F : Nat → FSem, ∀ n, F n = c_Ratio___init__.sem (defSem (tab t.lw n) 4 b_Ratio___init__) := ⟨_, fun _ => rfl⟩
def S_Ratio___init__ : Nat → FSem := X_Ratio___init__.choose
theorem Y_Ratio___init__ (n : Nat) : S_Ratio___init__ n = c_Ratio___init__.sem (defSem (tab t.lw n) 4 b_Ratio___init__) := X_Ratio___init__.choose_spec n
theorem E_Ratio___init__ {n : Nat} {ds : List D} {ob : List OE} (h : ds.length = 3 := by rfl) : S_Ratio___init__ n ds ob = defSem (tab t.lw n) 4 b_Ratio___init__ ds ob := by rw [Y_Ratio___init__]; exact sem_eq h
@[simp] theorem mk_Ratio___init__ (n : Nat) : (tab t.lw (n + 1)).mks 4 = some (mkF 4 (S_Ratio___init__ n)) := by rw [Y_Ratio___init__]; rfl
theorem X_Ratio_plus : ∃ F : Nat → FSem, ∀ n, F n = c_Ratio_plus.sem (defSem (tab t.lw n) 2 b_Ratio_plus) := ⟨_, fun _ => rfl⟩
def S_Ratio_plus : Nat → FSem := X_Ratio_plus.choose
theorem Y_Ratio_plus (n : Nat) : S_Ratio_plus n = c_Ratio_plus.sem (defSem (tab t.lw n) 2 b_Ratio_plus) := X_Ratio_plus.choose_spec n
theorem E_Ratio_plus {n : Nat} {ds : List D} {ob : List OE} (h : ds.length = 2 := by rfl) : S_Ratio_plus n ds ob = defSem (tab t.lw n) 2 b_Ratio_plus ds ob := by rw [Y_Ratio_plus]; exact sem_eq h
@[simp] theorem mt_Ratio_plus (n : Nat) : (tab t.lw (n + 1)).mth 4 48 = some (S_Ratio_plus n) := by rw [Y_Ratio_plus]; rfl
theorem X_Ratio_minus : ∃ F : Nat → FSem, ∀ n, F n = c_Ratio_minus.sem (defSem (tab t.lw n) 2 b_Ratio_minus) := ⟨_, fun _ => rfl⟩
def S_Ratio_minus : Nat → FSem := X_Ratio_minus.choose
theorem Y_Ratio_minus (n : Nat) : S_Ratio_minus n = c_Ratio_minus.sem (defSem (tab t.lw n) 2 b_Ratio_minus) := X_Ratio_minus.choose_spec n
theorem E_Ratio_minus {n : Nat} {ds : List D} {ob : List OE} (h : ds.length = 2 := by rfl) : S_Ratio_minus n ds ob = defSem (tab t.lw n) 2 b_Ratio_minus ds ob := by rw [Y_Ratio_minus]; exact sem_eq h
@[simp] theorem mt_Ratio_minus (n : Nat) : (tab t.lw (n + 1)).mth 4 49 = some (S_Ratio_minus n) := by rw [Y_Ratio_minus]; rfl
theorem X_Ratio_times : ∃ F : Nat → FSem, ∀ n, F n = c_Ratio_times.sem (defSem (tab t.lw n) 2 b_Ratio_times) := ⟨_, fun _ => rfl⟩
def S_Ratio_times : Nat → FSem := X_Ratio_times.choose
theorem Y_Ratio_times (n : Nat) : S_Ratio_times n = c_Ratio_times.sem (defSem (tab t.lw n) 2 b_Ratio_times) := X_Ratio_times.choose_spec n
theorem E_Ratio_times {n : Nat} {ds : List D} {ob : List OE} (h : ds.length = 2 := by rfl) : S_Ratio_times n ds ob = defSem (tab t.lw n) 2 b_Ratio_times ds ob := by rw [Y_Ratio_times]; exact sem_eq h
@[simp] theorem mt_Ratio_times (n : Nat) : (tab t.lw (n + 1)).mth 4 50 = some (S_Ratio_times n) := by rw [Y_Ratio_times]; rfl
theorem X_Ratio_over : ∃ F : Nat → FSem, ∀ n, F n = c_Ratio_over.sem (defSem (tab t.lw n) 2 b_Ratio_over) := ⟨_, fun _ => rfl⟩
def S_Ratio_over : Nat → FSem := X_Ratio_over.choose
theorem Y_Ratio_over (n : Nat) : S_Ratio_over n = c_Ratio_over.sem (defSem (tab t.lw n) 2 b_Ratio_over) := X_Ratio_over.choose_spec n
theorem E_Ratio_over {n : Nat} {ds : List D} {ob : List OE} (h : ds.length = 2 := by rfl) : S_Ratio_over n ds ob = defSem (tab t.lw n) 2 b_Ratio_over ds ob := by rw [Y_Ratio_over]; exact sem_eq h
@[simp] theorem mt_Ratio_over (n : Nat) : (tab t.lw (n + 1)).mth 4 51 = some (S_Ratio_over n) := by rw [Y_Ratio_over]; rfl
theorem X_Ratio_against : ∃ F : Nat → FSem, ∀ n, F n = c_Ratio_against.sem (defSem (tab t.lw n) 2 b_Ratio_against) := ⟨_, fun _ => rfl⟩
def S_Ratio_against : Nat → FSem := X_Ratio_against.choose
theorem Y_Ratio_against (n : Nat) : S_Ratio_against n = c_Ratio_against.sem (defSem (tab t.lw n) 2 b_Ratio_against) := X_Ratio_against.choose_spec n
theorem E_Ratio_against {n : Nat} {ds : List D} {ob : List OE} (h : ds.length = 2 := by rfl) : S_Ratio_against n ds ob = defSem (tab t.lw n) 2 b_Ratio_against ds ob := by rw [Y_Ratio_against]; exact sem_eq h
@[simp] theorem mt_Ratio_against (n : Nat) : (tab t.lw (n + 1)).mth 4 14 = some (S_Ratio_against n) := by rw [Y_Ratio_against]; rfl
theorem X_Ratio_sign : ∃ F : Nat → FSem, ∀ n, F n = c_Ratio_sign.sem (defSem (tab t.lw n) 1 b_Ratio_sign) := ⟨_, fun _ => rfl⟩
def S_Ratio_sign : Nat → FSem := X_Ratio_sign.choose
theorem Y_Ratio_sign (n : Nat) : S_Ratio_sign n = c_Ratio_sign.sem (defSem (tab t.lw n) 1 b_Ratio_sign) := X_Ratio_sign.choose_spec n
theorem E_Ratio_sign {n : Nat} {ds : List D} {ob : List OE} (h : ds.length = 1 := by rfl) : S_Ratio_sign n ds ob = defSem (tab t.lw n) 1 b_Ratio_sign ds ob := by rw [Y_Ratio_sign]; exact sem_eq h
@[simp] theorem mt_Ratio_sign (n : Nat) : (tab t.lw (n + 1)).mth 4 52 = some (S_Ratio_sign n) := by rw [Y_Ratio_sign]; rfl
theorem X_Ratio_floor : ∃ F : Nat → FSem, ∀ n, F n = c_Ratio_floor.sem (defSem (tab t.lw n) 1 b_Ratio_floor) := ⟨_, fun _ => rfl⟩
def S_Ratio_floor : Nat → FSem := X_Ratio_floor.choose
theorem Y_Ratio_floor (n : Nat) : S_Ratio_floor n = c_Ratio_floor.sem (defSem (tab t.lw n) 1 b_Ratio_floor) := X_Ratio_floor.choose_spec n
theorem E_Ratio_floor {n : Nat} {ds : List D} {ob : List OE} (h : ds.length = 1 := by rfl) : S_Ratio_floor n ds ob = defSem (tab t.lw n) 1 b_Ratio_floor ds ob := by rw [Y_Ratio_floor]; exact sem_eq h
@[simp] theorem mt_Ratio_floor (n : Nat) : (tab t.lw (n + 1)).mth 4 53 = some (S_Ratio_floor n) := by rw [Y_Ratio_floor]; rfl
theorem X_Ratio_text : ∃ F : Nat → FSem, ∀ n, F n = c_Ratio_text.sem (defSem (tab t.lw n) 1 b_Ratio_text) := ⟨_, fun _ => rfl⟩
def S_Ratio_text : Nat → FSem := X_Ratio_text.choose
theorem Y_Ratio_text (n : Nat) : S_Ratio_text n = c_Ratio_text.sem (defSem (tab t.lw n) 1 b_Ratio_text) := X_Ratio_text.choose_spec n
theorem E_Ratio_text {n : Nat} {ds : List D} {ob : List OE} (h : ds.length = 1 := by rfl) : S_Ratio_text n ds ob = defSem (tab t.lw n) 1 b_Ratio_text ds ob := by rw [Y_Ratio_text]; exact sem_eq h
@[simp] theorem mt_Ratio_text (n : Nat) : (tab t.lw (n + 1)).mth 4 54 = some (S_Ratio_text n) := by rw [Y_Ratio_text]; rfl
theorem X_poly : ∃ F : Nat → FSem, ∀ n, F n = c_poly.sem (defSem (tab t.lw n) 2 b_poly) := ⟨_, fun _ => rfl⟩
def S_poly : Nat → FSem := X_poly.choose
theorem Y_poly (n : Nat) : S_poly n = c_poly.sem (defSem (tab t.lw n) 2 b_poly) := X_poly.choose_spec n
theorem E_poly {n : Nat} {ds : List D} {ob : List OE} (h : ds.length = 1 := by rfl) : S_poly n ds ob = defSem (tab t.lw n) 2 b_poly ds ob := by rw [Y_poly]; exact sem_eq h
@[simp] theorem fn_poly (n : Nat) : (tab t.lw (n + 1)).fn 6 = some (S_poly n) := by rw [Y_poly]; rfl
theorem X_degree : ∃ F : Nat → FSem, ∀ n, F n = c_degree.sem (defSem (tab t.lw n) 1 b_degree) := ⟨_, fun _ => rfl⟩
def S_degree : Nat → FSem := X_degree.choose
theorem Y_degree (n : Nat) : S_degree n = c_degree.sem (defSem (tab t.lw n) 1 b_degree) := X_degree.choose_spec n
theorem E_degree {n : Nat} {ds : List D} {ob : List OE} (h : ds.length = 1 := by rfl) : S_degree n ds ob = defSem (tab t.lw n) 1 b_degree ds ob := by rw [Y_degree]; exact sem_eq h
@[simp] theorem fn_degree (n : Nat) : (tab t.lw (n + 1)).fn 16 = some (S_degree n) := by rw [Y_degree]; rfl
theorem X_coefficient_at : ∃ F : Nat → FSem, ∀ n, F n = c_coefficient_at.sem (defSem (tab t.lw n) 2 b_coefficient_at) := ⟨_, fun _ => rfl⟩
def S_coefficient_at : Nat → FSem := X_coefficient_at.choose
theorem Y_coefficient_at (n : Nat) : S_coefficient_at n = c_coefficient_at.sem (defSem (tab t.lw n) 2 b_coefficient_at) := X_coefficient_at.choose_spec n
theorem E_coefficient_at {n : Nat} {ds : List D} {ob : List OE} (h : ds.length = 2 := by rfl) : S_coefficient_at n ds ob = defSem (tab t.lw n) 2 b_coefficient_at ds ob := by rw [Y_coefficient_at]; exact sem_eq h
@[simp] theorem fn_coefficient_at (n : Nat) : (tab t.lw (n + 1)).fn 7 = some (S_coefficient_at n) := by rw [Y_coefficient_at]; rfl
theorem X_taken : ∃ F : Nat → FSem, ∀ n, F n = c_taken.sem (defSem (tab t.lw n) 3 b_taken) := ⟨_, fun _ => rfl⟩
def S_taken : Nat → FSem := X_taken.choose
theorem Y_taken (n : Nat) : S_taken n = c_taken.sem (defSem (tab t.lw n) 3 b_taken) := X_taken.choose_spec n
theorem E_taken {n : Nat} {ds : List D} {ob : List OE} (h : ds.length = 2 := by rfl) : S_taken n ds ob = defSem (tab t.lw n) 3 b_taken ds ob := by rw [Y_taken]; exact sem_eq h
@[simp] theorem fn_taken (n : Nat) : (tab t.lw (n + 1)).fn 11 = some (S_taken n) := by rw [Y_taken]; rfl
theorem X_multiplied : ∃ F : Nat → FSem, ∀ n, F n = c_multiplied.sem (defSem (tab t.lw n) 5 b_multiplied) := ⟨_, fun _ => rfl⟩
def S_multiplied : Nat → FSem := X_multiplied.choose
theorem Y_multiplied (n : Nat) : S_multiplied n = c_multiplied.sem (defSem (tab t.lw n) 5 b_multiplied) := X_multiplied.choose_spec n
theorem E_multiplied {n : Nat} {ds : List D} {ob : List OE} (h : ds.length = 2 := by rfl) : S_multiplied n ds ob = defSem (tab t.lw n) 5 b_multiplied ds ob := by rw [Y_multiplied]; exact sem_eq h
@[simp] theorem fn_multiplied (n : Nat) : (tab t.lw (n + 1)).fn 12 = some (S_multiplied n) := by rw [Y_multiplied]; rfl
theorem X_slope : ∃ F : Nat → FSem, ∀ n, F n = c_slope.sem (defSem (tab t.lw n) 2 b_slope) := ⟨_, fun _ => rfl⟩
def S_slope : Nat → FSem := X_slope.choose
theorem Y_slope (n : Nat) : S_slope n = c_slope.sem (defSem (tab t.lw n) 2 b_slope) := X_slope.choose_spec n
theorem E_slope {n : Nat} {ds : List D} {ob : List OE} (h : ds.length = 1 := by rfl) : S_slope n ds ob = defSem (tab t.lw n) 2 b_slope ds ob := by rw [Y_slope]; exact sem_eq h
@[simp] theorem fn_slope (n : Nat) : (tab t.lw (n + 1)).fn 18 = some (S_slope n) := by rw [Y_slope]; rfl
theorem X_shrunk : ∃ F : Nat → FSem, ∀ n, F n = c_shrunk.sem (defSem (tab t.lw n) 3 b_shrunk) := ⟨_, fun _ => rfl⟩
def S_shrunk : Nat → FSem := X_shrunk.choose
theorem Y_shrunk (n : Nat) : S_shrunk n = c_shrunk.sem (defSem (tab t.lw n) 3 b_shrunk) := X_shrunk.choose_spec n
theorem E_shrunk {n : Nat} {ds : List D} {ob : List OE} (h : ds.length = 1 := by rfl) : S_shrunk n ds ob = defSem (tab t.lw n) 3 b_shrunk ds ob := by rw [Y_shrunk]; exact sem_eq h
@[simp] theorem fn_shrunk (n : Nat) : (tab t.lw (n + 1)).fn 17 = some (S_shrunk n) := by rw [Y_shrunk]; rfl
theorem X_top_at : ∃ F : Nat → FSem, ∀ n, F n = c_top_at.sem (defSem (tab t.lw n) 5 b_top_at) := ⟨_, fun _ => rfl⟩
def S_top_at : Nat → FSem := X_top_at.choose
theorem Y_top_at (n : Nat) : S_top_at n = c_top_at.sem (defSem (tab t.lw n) 5 b_top_at) := X_top_at.choose_spec n
theorem E_top_at {n : Nat} {ds : List D} {ob : List OE} (h : ds.length = 2 := by rfl) : S_top_at n ds ob = defSem (tab t.lw n) 5 b_top_at ds ob := by rw [Y_top_at]; exact sem_eq h
@[simp] theorem fn_top_at (n : Nat) : (tab t.lw (n + 1)).fn 8 = some (S_top_at n) := by rw [Y_top_at]; rfl
theorem X_sign_at : ∃ F : Nat → FSem, ∀ n, F n = c_sign_at.sem (defSem (tab t.lw n) 2 b_sign_at) := ⟨_, fun _ => rfl⟩
def S_sign_at : Nat → FSem := X_sign_at.choose
theorem Y_sign_at (n : Nat) : S_sign_at n = c_sign_at.sem (defSem (tab t.lw n) 2 b_sign_at) := X_sign_at.choose_spec n
theorem E_sign_at {n : Nat} {ds : List D} {ob : List OE} (h : ds.length = 2 := by rfl) : S_sign_at n ds ob = defSem (tab t.lw n) 2 b_sign_at ds ob := by rw [Y_sign_at]; exact sem_eq h
@[simp] theorem fn_sign_at (n : Nat) : (tab t.lw (n + 1)).fn 9 = some (S_sign_at n) := by rw [Y_sign_at]; rfl
theorem X_changes : ∃ F : Nat → FSem, ∀ n, F n = c_changes.sem (defSem (tab t.lw n) 6 b_changes) := ⟨_, fun _ => rfl⟩
def S_changes : Nat → FSem := X_changes.choose
theorem Y_changes (n : Nat) : S_changes n = c_changes.sem (defSem (tab t.lw n) 6 b_changes) := X_changes.choose_spec n
theorem E_changes {n : Nat} {ds : List D} {ob : List OE} (h : ds.length = 2 := by rfl) : S_changes n ds ob = defSem (tab t.lw n) 6 b_changes ds ob := by rw [Y_changes]; exact sem_eq h
@[simp] theorem fn_changes (n : Nat) : (tab t.lw (n + 1)).fn 10 = some (S_changes n) := by rw [Y_changes]; rfl
theorem X_count : ∃ F : Nat → FSem, ∀ n, F n = c_count.sem (defSem (tab t.lw n) 3 b_count) := ⟨_, fun _ => rfl⟩
def S_count : Nat → FSem := X_count.choose
theorem Y_count (n : Nat) : S_count n = c_count.sem (defSem (tab t.lw n) 3 b_count) := X_count.choose_spec n
theorem E_count {n : Nat} {ds : List D} {ob : List OE} (h : ds.length = 3 := by rfl) : S_count n ds ob = defSem (tab t.lw n) 3 b_count ds ob := by rw [Y_count]; exact sem_eq h
@[simp] theorem fn_count (n : Nat) : (tab t.lw (n + 1)).fn 13 = some (S_count n) := by rw [Y_count]; rfl
theorem X_link_holds : ∃ F : Nat → FSem, ∀ n, F n = c_link_holds.sem (defSem (tab t.lw n) 5 b_link_holds) := ⟨_, fun _ => rfl⟩
def S_link_holds : Nat → FSem := X_link_holds.choose
theorem Y_link_holds (n : Nat) : S_link_holds n = c_link_holds.sem (defSem (tab t.lw n) 5 b_link_holds) := X_link_holds.choose_spec n
theorem E_link_holds {n : Nat} {ds : List D} {ob : List OE} (h : ds.length = 3 := by rfl) : S_link_holds n ds ob = defSem (tab t.lw n) 5 b_link_holds ds ob := by rw [Y_link_holds]; exact sem_eq h
@[simp] theorem fn_link_holds (n : Nat) : (tab t.lw (n + 1)).fn 15 = some (S_link_holds n) := by rw [Y_link_holds]; rfl
theorem X_just_one : ∃ F : Nat → FSem, ∀ n, F n = c_just_one.sem (defSem (tab t.lw n) 8 b_just_one) := ⟨_, fun _ => rfl⟩
def S_just_one : Nat → FSem := X_just_one.choose
theorem Y_just_one (n : Nat) : S_just_one n = c_just_one.sem (defSem (tab t.lw n) 8 b_just_one) := X_just_one.choose_spec n
theorem E_just_one {n : Nat} {ds : List D} {ob : List OE} (h : ds.length = 4 := by rfl) : S_just_one n ds ob = defSem (tab t.lw n) 8 b_just_one ds ob := by rw [Y_just_one]; exact sem_eq h
@[simp] theorem fn_just_one (n : Nat) : (tab t.lw (n + 1)).fn 36 = some (S_just_one n) := by rw [Y_just_one]; rfl
theorem X__law_cell_at : ∃ F : Nat → FSem, ∀ n, F n = c__law_cell_at.sem (defSem (tab t.lw n) 2 b__law_cell_at) := ⟨_, fun _ => rfl⟩
def S__law_cell_at : Nat → FSem := X__law_cell_at.choose
theorem Y__law_cell_at (n : Nat) : S__law_cell_at n = c__law_cell_at.sem (defSem (tab t.lw n) 2 b__law_cell_at) := X__law_cell_at.choose_spec n
theorem E__law_cell_at {n : Nat} {ds : List D} {ob : List OE} (h : ds.length = 2 := by rfl) : S__law_cell_at n ds ob = defSem (tab t.lw n) 2 b__law_cell_at ds ob := by rw [Y__law_cell_at]; exact sem_eq h
@[simp] theorem fn__law_cell_at (n : Nat) : (tab t.lw (n + 1)).fn 39 = some (S__law_cell_at n) := by rw [Y__law_cell_at]; rfl
theorem X__law_within : ∃ F : Nat → FSem, ∀ n, F n = c__law_within.sem (defSem (tab t.lw n) 2 b__law_within) := ⟨_, fun _ => rfl⟩
def S__law_within : Nat → FSem := X__law_within.choose
theorem Y__law_within (n : Nat) : S__law_within n = c__law_within.sem (defSem (tab t.lw n) 2 b__law_within) := X__law_within.choose_spec n
theorem E__law_within {n : Nat} {ds : List D} {ob : List OE} (h : ds.length = 2 := by rfl) : S__law_within n ds ob = defSem (tab t.lw n) 2 b__law_within ds ob := by rw [Y__law_within]; exact sem_eq h
@[simp] theorem fn__law_within (n : Nat) : (tab t.lw (n + 1)).fn 27 = some (S__law_within n) := by rw [Y__law_within]; rfl
theorem X__law_trim : ∃ F : Nat → FSem, ∀ n, F n = c__law_trim.sem (defSem (tab t.lw n) 2 b__law_trim) := ⟨_, fun _ => rfl⟩
def S__law_trim : Nat → FSem := X__law_trim.choose
theorem Y__law_trim (n : Nat) : S__law_trim n = c__law_trim.sem (defSem (tab t.lw n) 2 b__law_trim) := X__law_trim.choose_spec n
theorem E__law_trim {n : Nat} {ds : List D} {ob : List OE} (h : ds.length = 1 := by rfl) : S__law_trim n ds ob = defSem (tab t.lw n) 2 b__law_trim ds ob := by rw [Y__law_trim]; exact sem_eq h
@[simp] theorem fn__law_trim (n : Nat) : (tab t.lw (n + 1)).fn 29 = some (S__law_trim n) := by rw [Y__law_trim]; rfl
theorem X__law_mul : ∃ F : Nat → FSem, ∀ n, F n = c__law_mul.sem (defSem (tab t.lw n) 8 b__law_mul) := ⟨_, fun _ => rfl⟩
def S__law_mul : Nat → FSem := X__law_mul.choose
theorem Y__law_mul (n : Nat) : S__law_mul n = c__law_mul.sem (defSem (tab t.lw n) 8 b__law_mul) := X__law_mul.choose_spec n
theorem E__law_mul {n : Nat} {ds : List D} {ob : List OE} (h : ds.length = 2 := by rfl) : S__law_mul n ds ob = defSem (tab t.lw n) 8 b__law_mul ds ob := by rw [Y__law_mul]; exact sem_eq h
@[simp] theorem fn__law_mul (n : Nat) : (tab t.lw (n + 1)).fn 24 = some (S__law_mul n) := by rw [Y__law_mul]; rfl
theorem X__law_gcd : ∃ F : Nat → FSem, ∀ n, F n = c__law_gcd.sem (defSem (tab t.lw n) 3 b__law_gcd) := ⟨_, fun _ => rfl⟩
def S__law_gcd : Nat → FSem := X__law_gcd.choose
theorem Y__law_gcd (n : Nat) : S__law_gcd n = c__law_gcd.sem (defSem (tab t.lw n) 3 b__law_gcd) := X__law_gcd.choose_spec n
theorem E__law_gcd {n : Nat} {ds : List D} {ob : List OE} (h : ds.length = 2 := by rfl) : S__law_gcd n ds ob = defSem (tab t.lw n) 3 b__law_gcd ds ob := by rw [Y__law_gcd]; exact sem_eq h
@[simp] theorem fn__law_gcd (n : Nat) : (tab t.lw (n + 1)).fn 19 = some (S__law_gcd n) := by rw [Y__law_gcd]; rfl
theorem X__law_shared : ∃ F : Nat → FSem, ∀ n, F n = c__law_shared.sem (defSem (tab t.lw n) 3 b__law_shared) := ⟨_, fun _ => rfl⟩
def S__law_shared : Nat → FSem := X__law_shared.choose
theorem Y__law_shared (n : Nat) : S__law_shared n = c__law_shared.sem (defSem (tab t.lw n) 3 b__law_shared) := X__law_shared.choose_spec n
theorem E__law_shared {n : Nat} {ds : List D} {ob : List OE} (h : ds.length = 1 := by rfl) : S__law_shared n ds ob = defSem (tab t.lw n) 3 b__law_shared ds ob := by rw [Y__law_shared]; exact sem_eq h
@[simp] theorem fn__law_shared (n : Nat) : (tab t.lw (n + 1)).fn 31 = some (S__law_shared n) := by rw [Y__law_shared]; rfl
theorem X__law_shrunk : ∃ F : Nat → FSem, ∀ n, F n = c__law_shrunk.sem (defSem (tab t.lw n) 3 b__law_shrunk) := ⟨_, fun _ => rfl⟩
def S__law_shrunk : Nat → FSem := X__law_shrunk.choose
theorem Y__law_shrunk (n : Nat) : S__law_shrunk n = c__law_shrunk.sem (defSem (tab t.lw n) 3 b__law_shrunk) := X__law_shrunk.choose_spec n
theorem E__law_shrunk {n : Nat} {ds : List D} {ob : List OE} (h : ds.length = 1 := by rfl) : S__law_shrunk n ds ob = defSem (tab t.lw n) 3 b__law_shrunk ds ob := by rw [Y__law_shrunk]; exact sem_eq h
@[simp] theorem fn__law_shrunk (n : Nat) : (tab t.lw (n + 1)).fn 20 = some (S__law_shrunk n) := by rw [Y__law_shrunk]; rfl
theorem X__law_plain : ∃ F : Nat → FSem, ∀ n, F n = c__law_plain.sem (defSem (tab t.lw n) 3 b__law_plain) := ⟨_, fun _ => rfl⟩
def S__law_plain : Nat → FSem := X__law_plain.choose
theorem Y__law_plain (n : Nat) : S__law_plain n = c__law_plain.sem (defSem (tab t.lw n) 3 b__law_plain) := X__law_plain.choose_spec n
theorem E__law_plain {n : Nat} {ds : List D} {ob : List OE} (h : ds.length = 1 := by rfl) : S__law_plain n ds ob = defSem (tab t.lw n) 3 b__law_plain ds ob := by rw [Y__law_plain]; exact sem_eq h
@[simp] theorem fn__law_plain (n : Nat) : (tab t.lw (n + 1)).fn 21 = some (S__law_plain n) := by rw [Y__law_plain]; rfl
theorem X__law_factor_by : ∃ F : Nat → FSem, ∀ n, F n = c__law_factor_by.sem (defSem (tab t.lw n) 6 b__law_factor_by) := ⟨_, fun _ => rfl⟩
def S__law_factor_by : Nat → FSem := X__law_factor_by.choose
theorem Y__law_factor_by (n : Nat) : S__law_factor_by n = c__law_factor_by.sem (defSem (tab t.lw n) 6 b__law_factor_by) := X__law_factor_by.choose_spec n
theorem E__law_factor_by {n : Nat} {ds : List D} {ob : List OE} (h : ds.length = 2 := by rfl) : S__law_factor_by n ds ob = defSem (tab t.lw n) 6 b__law_factor_by ds ob := by rw [Y__law_factor_by]; exact sem_eq h
@[simp] theorem fn__law_factor_by (n : Nat) : (tab t.lw (n + 1)).fn 23 = some (S__law_factor_by n) := by rw [Y__law_factor_by]; rfl
theorem X__law_shape : ∃ F : Nat → FSem, ∀ n, F n = c__law_shape.sem (defSem (tab t.lw n) 3 b__law_shape) := ⟨_, fun _ => rfl⟩
def S__law_shape : Nat → FSem := X__law_shape.choose
theorem Y__law_shape (n : Nat) : S__law_shape n = c__law_shape.sem (defSem (tab t.lw n) 3 b__law_shape) := X__law_shape.choose_spec n
theorem E__law_shape {n : Nat} {ds : List D} {ob : List OE} (h : ds.length = 1 := by rfl) : S__law_shape n ds ob = defSem (tab t.lw n) 3 b__law_shape ds ob := by rw [Y__law_shape]; exact sem_eq h
@[simp] theorem fn__law_shape (n : Nat) : (tab t.lw (n + 1)).fn 22 = some (S__law_shape n) := by rw [Y__law_shape]; rfl
theorem X__law_factors_by : ∃ F : Nat → FSem, ∀ n, F n = c__law_factors_by.sem (defSem (tab t.lw n) 8 b__law_factors_by) := ⟨_, fun _ => rfl⟩
def S__law_factors_by : Nat → FSem := X__law_factors_by.choose
theorem Y__law_factors_by (n : Nat) : S__law_factors_by n = c__law_factors_by.sem (defSem (tab t.lw n) 8 b__law_factors_by) := X__law_factors_by.choose_spec n
theorem E__law_factors_by {n : Nat} {ds : List D} {ob : List OE} (h : ds.length = 3 := by rfl) : S__law_factors_by n ds ob = defSem (tab t.lw n) 8 b__law_factors_by ds ob := by rw [Y__law_factors_by]; exact sem_eq h
@[simp] theorem fn__law_factors_by (n : Nat) : (tab t.lw (n + 1)).fn 45 = some (S__law_factors_by n) := by rw [Y__law_factors_by]; rfl
theorem X__law_product : ∃ F : Nat → FSem, ∀ n, F n = c__law_product.sem (defSem (tab t.lw n) 3 b__law_product) := ⟨_, fun _ => rfl⟩
def S__law_product : Nat → FSem := X__law_product.choose
theorem Y__law_product (n : Nat) : S__law_product n = c__law_product.sem (defSem (tab t.lw n) 3 b__law_product) := X__law_product.choose_spec n
theorem E__law_product {n : Nat} {ds : List D} {ob : List OE} (h : ds.length = 1 := by rfl) : S__law_product n ds ob = defSem (tab t.lw n) 3 b__law_product ds ob := by rw [Y__law_product]; exact sem_eq h
@[simp] theorem fn__law_product (n : Nat) : (tab t.lw (n + 1)).fn 43 = some (S__law_product n) := by rw [Y__law_product]; rfl
theorem X__law_sure : ∃ F : Nat → FSem, ∀ n, F n = c__law_sure.sem (defSem (tab t.lw n) 2 b__law_sure) := ⟨_, fun _ => rfl⟩
def S__law_sure : Nat → FSem := X__law_sure.choose
theorem Y__law_sure (n : Nat) : S__law_sure n = c__law_sure.sem (defSem (tab t.lw n) 2 b__law_sure) := X__law_sure.choose_spec n
theorem E__law_sure {n : Nat} {ds : List D} {ob : List OE} (h : ds.length = 2 := by rfl) : S__law_sure n ds ob = defSem (tab t.lw n) 2 b__law_sure ds ob := by rw [Y__law_sure]; exact sem_eq h
@[simp] theorem fn__law_sure (n : Nat) : (tab t.lw (n + 1)).fn 25 = some (S__law_sure n) := by rw [Y__law_sure]; rfl
theorem X__law_side : ∃ F : Nat → FSem, ∀ n, F n = c__law_side.sem (defSem (tab t.lw n) 5 b__law_side) := ⟨_, fun _ => rfl⟩
def S__law_side : Nat → FSem := X__law_side.choose
theorem Y__law_side (n : Nat) : S__law_side n = c__law_side.sem (defSem (tab t.lw n) 5 b__law_side) := X__law_side.choose_spec n
theorem E__law_side {n : Nat} {ds : List D} {ob : List OE} (h : ds.length = 3 := by rfl) : S__law_side n ds ob = defSem (tab t.lw n) 5 b__law_side ds ob := by rw [Y__law_side]; exact sem_eq h
@[simp] theorem fn__law_side (n : Nat) : (tab t.lw (n + 1)).fn 28 = some (S__law_side n) := by rw [Y__law_side]; rfl
theorem X__law_roots_of : ∃ F : Nat → FSem, ∀ n, F n = c__law_roots_of.sem (defSem (tab t.lw n) 3 b__law_roots_of) := ⟨_, fun _ => rfl⟩
def S__law_roots_of : Nat → FSem := X__law_roots_of.choose
theorem Y__law_roots_of (n : Nat) : S__law_roots_of n = c__law_roots_of.sem (defSem (tab t.lw n) 3 b__law_roots_of) := X__law_roots_of.choose_spec n
theorem E__law_roots_of {n : Nat} {ds : List D} {ob : List OE} (h : ds.length = 1 := by rfl) : S__law_roots_of n ds ob = defSem (tab t.lw n) 3 b__law_roots_of ds ob := by rw [Y__law_roots_of]; exact sem_eq h
@[simp] theorem fn__law_roots_of (n : Nat) : (tab t.lw (n + 1)).fn 42 = some (S__law_roots_of n) := by rw [Y__law_roots_of]; rfl
theorem X__law_norm : ∃ F : Nat → FSem, ∀ n, F n = c__law_norm.sem (defSem (tab t.lw n) 5 b__law_norm) := ⟨_, fun _ => rfl⟩
def S__law_norm : Nat → FSem := X__law_norm.choose
theorem Y__law_norm (n : Nat) : S__law_norm n = c__law_norm.sem (defSem (tab t.lw n) 5 b__law_norm) := X__law_norm.choose_spec n
theorem E__law_norm {n : Nat} {ds : List D} {ob : List OE} (h : ds.length = 4 := by rfl) : S__law_norm n ds ob = defSem (tab t.lw n) 5 b__law_norm ds ob := by rw [Y__law_norm]; exact sem_eq h
@[simp] theorem fn__law_norm (n : Nat) : (tab t.lw (n + 1)).fn 26 = some (S__law_norm n) := by rw [Y__law_norm]; rfl
theorem X__law_cube_shape : ∃ F : Nat → FSem, ∀ n, F n = c__law_cube_shape.sem (defSem (tab t.lw n) 5 b__law_cube_shape) := ⟨_, fun _ => rfl⟩
def S__law_cube_shape : Nat → FSem := X__law_cube_shape.choose
theorem Y__law_cube_shape (n : Nat) : S__law_cube_shape n = c__law_cube_shape.sem (defSem (tab t.lw n) 5 b__law_cube_shape) := X__law_cube_shape.choose_spec n
theorem E__law_cube_shape {n : Nat} {ds : List D} {ob : List OE} (h : ds.length = 1 := by rfl) : S__law_cube_shape n ds ob = defSem (tab t.lw n) 5 b__law_cube_shape ds ob := by rw [Y__law_cube_shape]; exact sem_eq h
@[simp] theorem fn__law_cube_shape (n : Nat) : (tab t.lw (n + 1)).fn 44 = some (S__law_cube_shape n) := by rw [Y__law_cube_shape]; rfl
theorem X__law_cube_by : ∃ F : Nat → FSem, ∀ n, F n = c__law_cube_by.sem (defSem (tab t.lw n) 6 b__law_cube_by) := ⟨_, fun _ => rfl⟩
def S__law_cube_by : Nat → FSem := X__law_cube_by.choose
theorem Y__law_cube_by (n : Nat) : S__law_cube_by n = c__law_cube_by.sem (defSem (tab t.lw n) 6 b__law_cube_by) := X__law_cube_by.choose_spec n
theorem E__law_cube_by {n : Nat} {ds : List D} {ob : List OE} (h : ds.length = 3 := by rfl) : S__law_cube_by n ds ob = defSem (tab t.lw n) 6 b__law_cube_by ds ob := by rw [Y__law_cube_by]; exact sem_eq h
@[simp] theorem fn__law_cube_by (n : Nat) : (tab t.lw (n + 1)).fn 46 = some (S__law_cube_by n) := by rw [Y__law_cube_by]; rfl
theorem X__law_way : ∃ F : Nat → FSem, ∀ n, F n = c__law_way.sem (defSem (tab t.lw n) 5 b__law_way) := ⟨_, fun _ => rfl⟩
def S__law_way : Nat → FSem := X__law_way.choose
theorem Y__law_way (n : Nat) : S__law_way n = c__law_way.sem (defSem (tab t.lw n) 5 b__law_way) := X__law_way.choose_spec n
theorem E__law_way {n : Nat} {ds : List D} {ob : List OE} (h : ds.length = 3 := by rfl) : S__law_way n ds ob = defSem (tab t.lw n) 5 b__law_way ds ob := by rw [Y__law_way]; exact sem_eq h
@[simp] theorem fn__law_way (n : Nat) : (tab t.lw (n + 1)).fn 33 = some (S__law_way n) := by rw [Y__law_way]; rfl
theorem X__law_divided : ∃ F : Nat → FSem, ∀ n, F n = c__law_divided.sem (defSem (tab t.lw n) 8 b__law_divided) := ⟨_, fun _ => rfl⟩
def S__law_divided : Nat → FSem := X__law_divided.choose
theorem Y__law_divided (n : Nat) : S__law_divided n = c__law_divided.sem (defSem (tab t.lw n) 8 b__law_divided) := X__law_divided.choose_spec n
theorem E__law_divided {n : Nat} {ds : List D} {ob : List OE} (h : ds.length = 2 := by rfl) : S__law_divided n ds ob = defSem (tab t.lw n) 8 b__law_divided ds ob := by rw [Y__law_divided]; exact sem_eq h
@[simp] theorem fn__law_divided (n : Nat) : (tab t.lw (n + 1)).fn 30 = some (S__law_divided n) := by rw [Y__law_divided]; rfl
theorem X__law_paper_from : ∃ F : Nat → FSem, ∀ n, F n = c__law_paper_from.sem (defSem (tab t.lw n) 7 b__law_paper_from) := ⟨_, fun _ => rfl⟩
def S__law_paper_from : Nat → FSem := X__law_paper_from.choose
theorem Y__law_paper_from (n : Nat) : S__law_paper_from n = c__law_paper_from.sem (defSem (tab t.lw n) 7 b__law_paper_from) := X__law_paper_from.choose_spec n
theorem E__law_paper_from {n : Nat} {ds : List D} {ob : List OE} (h : ds.length = 2 := by rfl) : S__law_paper_from n ds ob = defSem (tab t.lw n) 7 b__law_paper_from ds ob := by rw [Y__law_paper_from]; exact sem_eq h
@[simp] theorem fn__law_paper_from (n : Nat) : (tab t.lw (n + 1)).fn 32 = some (S__law_paper_from n) := by rw [Y__law_paper_from]; rfl
theorem X__law_paper : ∃ F : Nat → FSem, ∀ n, F n = c__law_paper.sem (defSem (tab t.lw n) 3 b__law_paper) := ⟨_, fun _ => rfl⟩
def S__law_paper : Nat → FSem := X__law_paper.choose
theorem Y__law_paper (n : Nat) : S__law_paper n = c__law_paper.sem (defSem (tab t.lw n) 3 b__law_paper) := X__law_paper.choose_spec n
theorem E__law_paper {n : Nat} {ds : List D} {ob : List OE} (h : ds.length = 1 := by rfl) : S__law_paper n ds ob = defSem (tab t.lw n) 3 b__law_paper ds ob := by rw [Y__law_paper]; exact sem_eq h
@[simp] theorem fn__law_paper (n : Nat) : (tab t.lw (n + 1)).fn 40 = some (S__law_paper n) := by rw [Y__law_paper]; rfl
theorem X__law_alone : ∃ F : Nat → FSem, ∀ n, F n = c__law_alone.sem (defSem (tab t.lw n) 6 b__law_alone) := ⟨_, fun _ => rfl⟩
def S__law_alone : Nat → FSem := X__law_alone.choose
theorem Y__law_alone (n : Nat) : S__law_alone n = c__law_alone.sem (defSem (tab t.lw n) 6 b__law_alone) := X__law_alone.choose_spec n
theorem E__law_alone {n : Nat} {ds : List D} {ob : List OE} (h : ds.length = 3 := by rfl) : S__law_alone n ds ob = defSem (tab t.lw n) 6 b__law_alone ds ob := by rw [Y__law_alone]; exact sem_eq h
@[simp] theorem fn__law_alone (n : Nat) : (tab t.lw (n + 1)).fn 35 = some (S__law_alone n) := by rw [Y__law_alone]; rfl
theorem X__law_half : ∃ F : Nat → FSem, ∀ n, F n = c__law_half.sem (defSem (tab t.lw n) 3 b__law_half) := ⟨_, fun _ => rfl⟩
def S__law_half : Nat → FSem := X__law_half.choose
theorem Y__law_half (n : Nat) : S__law_half n = c__law_half.sem (defSem (tab t.lw n) 3 b__law_half) := X__law_half.choose_spec n
theorem E__law_half {n : Nat} {ds : List D} {ob : List OE} (h : ds.length = 2 := by rfl) : S__law_half n ds ob = defSem (tab t.lw n) 3 b__law_half ds ob := by rw [Y__law_half]; exact sem_eq h
@[simp] theorem fn__law_half (n : Nat) : (tab t.lw (n + 1)).fn 34 = some (S__law_half n) := by rw [Y__law_half]; rfl
theorem X__law_span : ∃ F : Nat → FSem, ∀ n, F n = c__law_span.sem (defSem (tab t.lw n) 5 b__law_span) := ⟨_, fun _ => rfl⟩
def S__law_span : Nat → FSem := X__law_span.choose
theorem Y__law_span (n : Nat) : S__law_span n = c__law_span.sem (defSem (tab t.lw n) 5 b__law_span) := X__law_span.choose_spec n
theorem E__law_span {n : Nat} {ds : List D} {ob : List OE} (h : ds.length = 3 := by rfl) : S__law_span n ds ob = defSem (tab t.lw n) 5 b__law_span ds ob := by rw [Y__law_span]; exact sem_eq h
@[simp] theorem fn__law_span (n : Nat) : (tab t.lw (n + 1)).fn 41 = some (S__law_span n) := by rw [Y__law_span]; rfl
theorem X__law_scaled : ∃ F : Nat → FSem, ∀ n, F n = c__law_scaled.sem (defSem (tab t.lw n) 12 b__law_scaled) := ⟨_, fun _ => rfl⟩
def S__law_scaled : Nat → FSem := X__law_scaled.choose
theorem Y__law_scaled (n : Nat) : S__law_scaled n = c__law_scaled.sem (defSem (tab t.lw n) 12 b__law_scaled) := X__law_scaled.choose_spec n
theorem E__law_scaled {n : Nat} {ds : List D} {ob : List OE} (h : ds.length = 2 := by rfl) : S__law_scaled n ds ob = defSem (tab t.lw n) 12 b__law_scaled ds ob := by rw [Y__law_scaled]; exact sem_eq h
@[simp] theorem fn__law_scaled (n : Nat) : (tab t.lw (n + 1)).fn 38 = some (S__law_scaled n) := by rw [Y__law_scaled]; rfl
theorem X__law_told : ∃ F : Nat → FSem, ∀ n, F n = c__law_told.sem (defSem (tab t.lw n) 10 b__law_told) := ⟨_, fun _ => rfl⟩
def S__law_told : Nat → FSem := X__law_told.choose
theorem Y__law_told (n : Nat) : S__law_told n = c__law_told.sem (defSem (tab t.lw n) 10 b__law_told) := X__law_told.choose_spec n
theorem E__law_told {n : Nat} {ds : List D} {ob : List OE} (h : ds.length = 3 := by rfl) : S__law_told n ds ob = defSem (tab t.lw n) 10 b__law_told ds ob := by rw [Y__law_told]; exact sem_eq h
@[simp] theorem fn__law_told (n : Nat) : (tab t.lw (n + 1)).fn 37 = some (S__law_told n) := by rw [Y__law_told]; rfl
theorem X_law : ∃ F : Nat → FSem, ∀ n, F n = c_law.sem (defSem (tab t.lw n) 18 b_law) := ⟨_, fun _ => rfl⟩
def S_law : Nat → FSem := X_law.choose
theorem Y_law (n : Nat) : S_law n = c_law.sem (defSem (tab t.lw n) 18 b_law) := X_law.choose_spec n
theorem E_law {n : Nat} {ds : List D} {ob : List OE} (h : ds.length = 1 := by rfl) : S_law n ds ob = defSem (tab t.lw n) 18 b_law ds ob := by rw [Y_law]; exact sem_eq h
@[simp] theorem fn_law (n : Nat) : (tab t.lw (n + 1)).fn 55 = some (S_law n) := by rw [Y_law]; rfl
@[simp] theorem at_Ratio_top (n : Nat) : (tab t.lw n).att 4 1 = true := by cases n <;> rfl
@[simp] theorem at_Ratio_bottom (n : Nat) : (tab t.lw n).att 4 0 = true := by cases n <;> rfl
theorem chk1 : t.chk1 = true := by decide +kernel
theorem k__wall : c__wall.chk t.nm = true := by decide +kernel
theorem k_shared : c_shared.chk t.nm = true := by decide +kernel
theorem k_told_order : c_told_order.chk t.nm = true := by decide +kernel
theorem k_Ratio___init__ : c_Ratio___init__.chk t.nm = true := by decide +kernel
theorem k_Ratio_plus : c_Ratio_plus.chk t.nm = true := by decide +kernel
theorem k_Ratio_minus : c_Ratio_minus.chk t.nm = true := by decide +kernel
theorem k_Ratio_times : c_Ratio_times.chk t.nm = true := by decide +kernel
theorem k_Ratio_over : c_Ratio_over.chk t.nm = true := by decide +kernel
theorem k_Ratio_against : c_Ratio_against.chk t.nm = true := by decide +kernel
theorem k_Ratio_sign : c_Ratio_sign.chk t.nm = true := by decide +kernel
theorem k_Ratio_floor : c_Ratio_floor.chk t.nm = true := by decide +kernel
theorem k_Ratio_text : c_Ratio_text.chk t.nm = true := by decide +kernel
theorem k_poly : c_poly.chk t.nm = true := by decide +kernel
theorem k_degree : c_degree.chk t.nm = true := by decide +kernel
theorem k_coefficient_at : c_coefficient_at.chk t.nm = true := by decide +kernel
theorem k_taken : c_taken.chk t.nm = true := by decide +kernel
theorem k_multiplied : c_multiplied.chk t.nm = true := by decide +kernel
theorem k_slope : c_slope.chk t.nm = true := by decide +kernel
theorem k_shrunk : c_shrunk.chk t.nm = true := by decide +kernel
theorem k_top_at : c_top_at.chk t.nm = true := by decide +kernel
theorem k_sign_at : c_sign_at.chk t.nm = true := by decide +kernel
theorem k_changes : c_changes.chk t.nm = true := by decide +kernel
theorem k_count : c_count.chk t.nm = true := by decide +kernel
theorem k_link_holds : c_link_holds.chk t.nm = true := by decide +kernel
theorem k_just_one : c_just_one.chk t.nm = true := by decide +kernel
theorem k__law_cell_at : c__law_cell_at.chk t.nm = true := by decide +kernel
theorem k__law_within : c__law_within.chk t.nm = true := by decide +kernel
theorem k__law_trim : c__law_trim.chk t.nm = true := by decide +kernel
theorem k__law_mul : c__law_mul.chk t.nm = true := by decide +kernel
theorem k__law_gcd : c__law_gcd.chk t.nm = true := by decide +kernel
theorem k__law_shared : c__law_shared.chk t.nm = true := by decide +kernel
theorem k__law_shrunk : c__law_shrunk.chk t.nm = true := by decide +kernel
theorem k__law_plain : c__law_plain.chk t.nm = true := by decide +kernel
theorem k__law_factor_by : c__law_factor_by.chk t.nm = true := by decide +kernel
theorem k__law_shape : c__law_shape.chk t.nm = true := by decide +kernel
theorem k__law_factors_by : c__law_factors_by.chk t.nm = true := by decide +kernel
theorem k__law_product : c__law_product.chk t.nm = true := by decide +kernel
theorem k__law_sure : c__law_sure.chk t.nm = true := by decide +kernel
theorem k__law_side : c__law_side.chk t.nm = true := by decide +kernel
theorem k__law_roots_of : c__law_roots_of.chk t.nm = true := by decide +kernel
theorem k__law_norm : c__law_norm.chk t.nm = true := by decide +kernel
theorem k__law_cube_shape : c__law_cube_shape.chk t.nm = true := by decide +kernel
theorem k__law_cube_by : c__law_cube_by.chk t.nm = true := by decide +kernel
theorem k__law_way : c__law_way.chk t.nm = true := by decide +kernel
theorem k__law_divided : c__law_divided.chk t.nm = true := by decide +kernel
theorem k__law_paper_from : c__law_paper_from.chk t.nm = true := by decide +kernel
theorem k__law_paper : c__law_paper.chk t.nm = true := by decide +kernel
theorem k__law_alone : c__law_alone.chk t.nm = true := by decide +kernel
theorem k__law_half : c__law_half.chk t.nm = true := by decide +kernel
theorem k__law_span : c__law_span.chk t.nm = true := by decide +kernel
theorem k__law_scaled : c__law_scaled.chk t.nm = true := by decide +kernel
theorem k__law_told : c__law_told.chk t.nm = true := by decide +kernel
theorem k_law : c_law.chk t.nm = true := by decide +kernel
theorem chk : ∀ c ∈ t.cds, c.chk t.nm = true := by
  intro c h
  rcases List.mem_cons.mp h with rfl | h
  · exact k__wall
  rcases List.mem_cons.mp h with rfl | h
  · exact k_shared
  rcases List.mem_cons.mp h with rfl | h
  · exact k_told_order
  rcases List.mem_cons.mp h with rfl | h
  · exact k_Ratio___init__
  rcases List.mem_cons.mp h with rfl | h
  · exact k_Ratio_plus
  rcases List.mem_cons.mp h with rfl | h
  · exact k_Ratio_minus
  rcases List.mem_cons.mp h with rfl | h
  · exact k_Ratio_times
  rcases List.mem_cons.mp h with rfl | h
  · exact k_Ratio_over
  rcases List.mem_cons.mp h with rfl | h
  · exact k_Ratio_against
  rcases List.mem_cons.mp h with rfl | h
  · exact k_Ratio_sign
  rcases List.mem_cons.mp h with rfl | h
  · exact k_Ratio_floor
  rcases List.mem_cons.mp h with rfl | h
  · exact k_Ratio_text
  rcases List.mem_cons.mp h with rfl | h
  · exact k_poly
  rcases List.mem_cons.mp h with rfl | h
  · exact k_degree
  rcases List.mem_cons.mp h with rfl | h
  · exact k_coefficient_at
  rcases List.mem_cons.mp h with rfl | h
  · exact k_taken
  rcases List.mem_cons.mp h with rfl | h
  · exact k_multiplied
  rcases List.mem_cons.mp h with rfl | h
  · exact k_slope
  rcases List.mem_cons.mp h with rfl | h
  · exact k_shrunk
  rcases List.mem_cons.mp h with rfl | h
  · exact k_top_at
  rcases List.mem_cons.mp h with rfl | h
  · exact k_sign_at
  rcases List.mem_cons.mp h with rfl | h
  · exact k_changes
  rcases List.mem_cons.mp h with rfl | h
  · exact k_count
  rcases List.mem_cons.mp h with rfl | h
  · exact k_link_holds
  rcases List.mem_cons.mp h with rfl | h
  · exact k_just_one
  rcases List.mem_cons.mp h with rfl | h
  · exact k__law_cell_at
  rcases List.mem_cons.mp h with rfl | h
  · exact k__law_within
  rcases List.mem_cons.mp h with rfl | h
  · exact k__law_trim
  rcases List.mem_cons.mp h with rfl | h
  · exact k__law_mul
  rcases List.mem_cons.mp h with rfl | h
  · exact k__law_gcd
  rcases List.mem_cons.mp h with rfl | h
  · exact k__law_shared
  rcases List.mem_cons.mp h with rfl | h
  · exact k__law_shrunk
  rcases List.mem_cons.mp h with rfl | h
  · exact k__law_plain
  rcases List.mem_cons.mp h with rfl | h
  · exact k__law_factor_by
  rcases List.mem_cons.mp h with rfl | h
  · exact k__law_shape
  rcases List.mem_cons.mp h with rfl | h
  · exact k__law_factors_by
  rcases List.mem_cons.mp h with rfl | h
  · exact k__law_product
  rcases List.mem_cons.mp h with rfl | h
  · exact k__law_sure
  rcases List.mem_cons.mp h with rfl | h
  · exact k__law_side
  rcases List.mem_cons.mp h with rfl | h
  · exact k__law_roots_of
  rcases List.mem_cons.mp h with rfl | h
  · exact k__law_norm
  rcases List.mem_cons.mp h with rfl | h
  · exact k__law_cube_shape
  rcases List.mem_cons.mp h with rfl | h
  · exact k__law_cube_by
  rcases List.mem_cons.mp h with rfl | h
  · exact k__law_way
  rcases List.mem_cons.mp h with rfl | h
  · exact k__law_divided
  rcases List.mem_cons.mp h with rfl | h
  · exact k__law_paper_from
  rcases List.mem_cons.mp h with rfl | h
  · exact k__law_paper
  rcases List.mem_cons.mp h with rfl | h
  · exact k__law_alone
  rcases List.mem_cons.mp h with rfl | h
  · exact k__law_half
  rcases List.mem_cons.mp h with rfl | h
  · exact k__law_span
  rcases List.mem_cons.mp h with rfl | h
  · exact k__law_scaled
  rcases List.mem_cons.mp h with rfl | h
  · exact k__law_told
  rcases List.mem_cons.mp h with rfl | h
  · exact k_law
  cases h
theorem n__wall (K : PySem.W.Frag) : BindOk K t.nm c__wall := bindN rfl rfl fun _ _ _ _ _ _ us hl => match us, hl with | [_], _ => rfl
theorem n_shared (K : PySem.W.Frag) : BindOk K t.nm c_shared := bindN rfl rfl fun _ _ _ _ _ _ us hl => match us, hl with | [_], _ => rfl
theorem n_told_order (K : PySem.W.Frag) : BindOk K t.nm c_told_order := bindN rfl rfl fun _ _ _ _ _ _ us hl => match us, hl with | [_, _], _ => rfl
theorem n_Ratio___init__ (K : PySem.W.Frag) : BindOk K t.nm c_Ratio___init__ := bind1 2 rfl rfl rfl (fun _ _ _ _ _ _ _ us its hl h2 => match us, hl, its, h2 with | [_, _], _, [_], _ => ⟨_, rfl, rfl⟩) (fun _ _ _ _ _ _ _ us its hl h2 => match us, hl, its, h2 with | [_, _, _], _, [_], _ => ⟨_, rfl, rfl⟩)
theorem n_Ratio_plus (K : PySem.W.Frag) : BindOk K t.nm c_Ratio_plus := bindN rfl rfl fun _ _ _ _ _ _ us hl => match us, hl with | [_, _], _ => rfl
theorem n_Ratio_minus (K : PySem.W.Frag) : BindOk K t.nm c_Ratio_minus := bindN rfl rfl fun _ _ _ _ _ _ us hl => match us, hl with | [_, _], _ => rfl
theorem n_Ratio_times (K : PySem.W.Frag) : BindOk K t.nm c_Ratio_times := bindN rfl rfl fun _ _ _ _ _ _ us hl => match us, hl with | [_, _], _ => rfl
theorem n_Ratio_over (K : PySem.W.Frag) : BindOk K t.nm c_Ratio_over := bindN rfl rfl fun _ _ _ _ _ _ us hl => match us, hl with | [_, _], _ => rfl
theorem n_Ratio_against (K : PySem.W.Frag) : BindOk K t.nm c_Ratio_against := bindN rfl rfl fun _ _ _ _ _ _ us hl => match us, hl with | [_, _], _ => rfl
theorem n_Ratio_sign (K : PySem.W.Frag) : BindOk K t.nm c_Ratio_sign := bindN rfl rfl fun _ _ _ _ _ _ us hl => match us, hl with | [_], _ => rfl
theorem n_Ratio_floor (K : PySem.W.Frag) : BindOk K t.nm c_Ratio_floor := bindN rfl rfl fun _ _ _ _ _ _ us hl => match us, hl with | [_], _ => rfl
theorem n_Ratio_text (K : PySem.W.Frag) : BindOk K t.nm c_Ratio_text := bindN rfl rfl fun _ _ _ _ _ _ us hl => match us, hl with | [_], _ => rfl
theorem n_poly (K : PySem.W.Frag) : BindOk K t.nm c_poly := bindN rfl rfl fun _ _ _ _ _ _ us hl => match us, hl with | [_], _ => rfl
theorem n_degree (K : PySem.W.Frag) : BindOk K t.nm c_degree := bindN rfl rfl fun _ _ _ _ _ _ us hl => match us, hl with | [_], _ => rfl
theorem n_coefficient_at (K : PySem.W.Frag) : BindOk K t.nm c_coefficient_at := bindN rfl rfl fun _ _ _ _ _ _ us hl => match us, hl with | [_, _], _ => rfl
theorem n_taken (K : PySem.W.Frag) : BindOk K t.nm c_taken := bindN rfl rfl fun _ _ _ _ _ _ us hl => match us, hl with | [_, _], _ => rfl
theorem n_multiplied (K : PySem.W.Frag) : BindOk K t.nm c_multiplied := bindN rfl rfl fun _ _ _ _ _ _ us hl => match us, hl with | [_, _], _ => rfl
theorem n_slope (K : PySem.W.Frag) : BindOk K t.nm c_slope := bindN rfl rfl fun _ _ _ _ _ _ us hl => match us, hl with | [_], _ => rfl
theorem n_shrunk (K : PySem.W.Frag) : BindOk K t.nm c_shrunk := bindN rfl rfl fun _ _ _ _ _ _ us hl => match us, hl with | [_], _ => rfl
theorem n_top_at (K : PySem.W.Frag) : BindOk K t.nm c_top_at := bindN rfl rfl fun _ _ _ _ _ _ us hl => match us, hl with | [_, _], _ => rfl
theorem n_sign_at (K : PySem.W.Frag) : BindOk K t.nm c_sign_at := bindN rfl rfl fun _ _ _ _ _ _ us hl => match us, hl with | [_, _], _ => rfl
theorem n_changes (K : PySem.W.Frag) : BindOk K t.nm c_changes := bindN rfl rfl fun _ _ _ _ _ _ us hl => match us, hl with | [_, _], _ => rfl
theorem n_count (K : PySem.W.Frag) : BindOk K t.nm c_count := bindN rfl rfl fun _ _ _ _ _ _ us hl => match us, hl with | [_, _, _], _ => rfl
theorem n_link_holds (K : PySem.W.Frag) : BindOk K t.nm c_link_holds := bindN rfl rfl fun _ _ _ _ _ _ us hl => match us, hl with | [_, _, _], _ => rfl
theorem n_just_one (K : PySem.W.Frag) : BindOk K t.nm c_just_one := bindN rfl rfl fun _ _ _ _ _ _ us hl => match us, hl with | [_, _, _, _], _ => rfl
theorem n__law_cell_at (K : PySem.W.Frag) : BindOk K t.nm c__law_cell_at := bindN rfl rfl fun _ _ _ _ _ _ us hl => match us, hl with | [_, _], _ => rfl
theorem n__law_within (K : PySem.W.Frag) : BindOk K t.nm c__law_within := bindN rfl rfl fun _ _ _ _ _ _ us hl => match us, hl with | [_, _], _ => rfl
theorem n__law_trim (K : PySem.W.Frag) : BindOk K t.nm c__law_trim := bindN rfl rfl fun _ _ _ _ _ _ us hl => match us, hl with | [_], _ => rfl
theorem n__law_mul (K : PySem.W.Frag) : BindOk K t.nm c__law_mul := bindN rfl rfl fun _ _ _ _ _ _ us hl => match us, hl with | [_, _], _ => rfl
theorem n__law_gcd (K : PySem.W.Frag) : BindOk K t.nm c__law_gcd := bindN rfl rfl fun _ _ _ _ _ _ us hl => match us, hl with | [_, _], _ => rfl
theorem n__law_shared (K : PySem.W.Frag) : BindOk K t.nm c__law_shared := bindN rfl rfl fun _ _ _ _ _ _ us hl => match us, hl with | [_], _ => rfl
theorem n__law_shrunk (K : PySem.W.Frag) : BindOk K t.nm c__law_shrunk := bindN rfl rfl fun _ _ _ _ _ _ us hl => match us, hl with | [_], _ => rfl
theorem n__law_plain (K : PySem.W.Frag) : BindOk K t.nm c__law_plain := bindN rfl rfl fun _ _ _ _ _ _ us hl => match us, hl with | [_], _ => rfl
theorem n__law_factor_by (K : PySem.W.Frag) : BindOk K t.nm c__law_factor_by := bindN rfl rfl fun _ _ _ _ _ _ us hl => match us, hl with | [_, _], _ => rfl
theorem n__law_shape (K : PySem.W.Frag) : BindOk K t.nm c__law_shape := bindN rfl rfl fun _ _ _ _ _ _ us hl => match us, hl with | [_], _ => rfl
theorem n__law_factors_by (K : PySem.W.Frag) : BindOk K t.nm c__law_factors_by := bindN rfl rfl fun _ _ _ _ _ _ us hl => match us, hl with | [_, _, _], _ => rfl
theorem n__law_product (K : PySem.W.Frag) : BindOk K t.nm c__law_product := bindN rfl rfl fun _ _ _ _ _ _ us hl => match us, hl with | [_], _ => rfl
theorem n__law_sure (K : PySem.W.Frag) : BindOk K t.nm c__law_sure := bindN rfl rfl fun _ _ _ _ _ _ us hl => match us, hl with | [_, _], _ => rfl
theorem n__law_side (K : PySem.W.Frag) : BindOk K t.nm c__law_side := bindN rfl rfl fun _ _ _ _ _ _ us hl => match us, hl with | [_, _, _], _ => rfl
theorem n__law_roots_of (K : PySem.W.Frag) : BindOk K t.nm c__law_roots_of := bindN rfl rfl fun _ _ _ _ _ _ us hl => match us, hl with | [_], _ => rfl
theorem n__law_norm (K : PySem.W.Frag) : BindOk K t.nm c__law_norm := bindN rfl rfl fun _ _ _ _ _ _ us hl => match us, hl with | [_, _, _, _], _ => rfl
theorem n__law_cube_shape (K : PySem.W.Frag) : BindOk K t.nm c__law_cube_shape := bindN rfl rfl fun _ _ _ _ _ _ us hl => match us, hl with | [_], _ => rfl
theorem n__law_cube_by (K : PySem.W.Frag) : BindOk K t.nm c__law_cube_by := bindN rfl rfl fun _ _ _ _ _ _ us hl => match us, hl with | [_, _, _], _ => rfl
theorem n__law_way (K : PySem.W.Frag) : BindOk K t.nm c__law_way := bindN rfl rfl fun _ _ _ _ _ _ us hl => match us, hl with | [_, _, _], _ => rfl
theorem n__law_divided (K : PySem.W.Frag) : BindOk K t.nm c__law_divided := bindN rfl rfl fun _ _ _ _ _ _ us hl => match us, hl with | [_, _], _ => rfl
theorem n__law_paper_from (K : PySem.W.Frag) : BindOk K t.nm c__law_paper_from := bindN rfl rfl fun _ _ _ _ _ _ us hl => match us, hl with | [_, _], _ => rfl
theorem n__law_paper (K : PySem.W.Frag) : BindOk K t.nm c__law_paper := bindN rfl rfl fun _ _ _ _ _ _ us hl => match us, hl with | [_], _ => rfl
theorem n__law_alone (K : PySem.W.Frag) : BindOk K t.nm c__law_alone := bindN rfl rfl fun _ _ _ _ _ _ us hl => match us, hl with | [_, _, _], _ => rfl
theorem n__law_half (K : PySem.W.Frag) : BindOk K t.nm c__law_half := bindN rfl rfl fun _ _ _ _ _ _ us hl => match us, hl with | [_, _], _ => rfl
theorem n__law_span (K : PySem.W.Frag) : BindOk K t.nm c__law_span := bindN rfl rfl fun _ _ _ _ _ _ us hl => match us, hl with | [_, _, _], _ => rfl
theorem n__law_scaled (K : PySem.W.Frag) : BindOk K t.nm c__law_scaled := bindN rfl rfl fun _ _ _ _ _ _ us hl => match us, hl with | [_, _], _ => rfl
theorem n__law_told (K : PySem.W.Frag) : BindOk K t.nm c__law_told := bindN rfl rfl fun _ _ _ _ _ _ us hl => match us, hl with | [_, _, _], _ => rfl
theorem n_law (K : PySem.W.Frag) : BindOk K t.nm c_law := bindN rfl rfl fun _ _ _ _ _ _ us hl => match us, hl with | [_], _ => rfl
theorem binds (K : PySem.W.Frag) : ∀ c ∈ t.cds, BindOk K t.nm c := by
  intro c h
  rcases List.mem_cons.mp h with rfl | h
  · exact n__wall K
  rcases List.mem_cons.mp h with rfl | h
  · exact n_shared K
  rcases List.mem_cons.mp h with rfl | h
  · exact n_told_order K
  rcases List.mem_cons.mp h with rfl | h
  · exact n_Ratio___init__ K
  rcases List.mem_cons.mp h with rfl | h
  · exact n_Ratio_plus K
  rcases List.mem_cons.mp h with rfl | h
  · exact n_Ratio_minus K
  rcases List.mem_cons.mp h with rfl | h
  · exact n_Ratio_times K
  rcases List.mem_cons.mp h with rfl | h
  · exact n_Ratio_over K
  rcases List.mem_cons.mp h with rfl | h
  · exact n_Ratio_against K
  rcases List.mem_cons.mp h with rfl | h
  · exact n_Ratio_sign K
  rcases List.mem_cons.mp h with rfl | h
  · exact n_Ratio_floor K
  rcases List.mem_cons.mp h with rfl | h
  · exact n_Ratio_text K
  rcases List.mem_cons.mp h with rfl | h
  · exact n_poly K
  rcases List.mem_cons.mp h with rfl | h
  · exact n_degree K
  rcases List.mem_cons.mp h with rfl | h
  · exact n_coefficient_at K
  rcases List.mem_cons.mp h with rfl | h
  · exact n_taken K
  rcases List.mem_cons.mp h with rfl | h
  · exact n_multiplied K
  rcases List.mem_cons.mp h with rfl | h
  · exact n_slope K
  rcases List.mem_cons.mp h with rfl | h
  · exact n_shrunk K
  rcases List.mem_cons.mp h with rfl | h
  · exact n_top_at K
  rcases List.mem_cons.mp h with rfl | h
  · exact n_sign_at K
  rcases List.mem_cons.mp h with rfl | h
  · exact n_changes K
  rcases List.mem_cons.mp h with rfl | h
  · exact n_count K
  rcases List.mem_cons.mp h with rfl | h
  · exact n_link_holds K
  rcases List.mem_cons.mp h with rfl | h
  · exact n_just_one K
  rcases List.mem_cons.mp h with rfl | h
  · exact n__law_cell_at K
  rcases List.mem_cons.mp h with rfl | h
  · exact n__law_within K
  rcases List.mem_cons.mp h with rfl | h
  · exact n__law_trim K
  rcases List.mem_cons.mp h with rfl | h
  · exact n__law_mul K
  rcases List.mem_cons.mp h with rfl | h
  · exact n__law_gcd K
  rcases List.mem_cons.mp h with rfl | h
  · exact n__law_shared K
  rcases List.mem_cons.mp h with rfl | h
  · exact n__law_shrunk K
  rcases List.mem_cons.mp h with rfl | h
  · exact n__law_plain K
  rcases List.mem_cons.mp h with rfl | h
  · exact n__law_factor_by K
  rcases List.mem_cons.mp h with rfl | h
  · exact n__law_shape K
  rcases List.mem_cons.mp h with rfl | h
  · exact n__law_factors_by K
  rcases List.mem_cons.mp h with rfl | h
  · exact n__law_product K
  rcases List.mem_cons.mp h with rfl | h
  · exact n__law_sure K
  rcases List.mem_cons.mp h with rfl | h
  · exact n__law_side K
  rcases List.mem_cons.mp h with rfl | h
  · exact n__law_roots_of K
  rcases List.mem_cons.mp h with rfl | h
  · exact n__law_norm K
  rcases List.mem_cons.mp h with rfl | h
  · exact n__law_cube_shape K
  rcases List.mem_cons.mp h with rfl | h
  · exact n__law_cube_by K
  rcases List.mem_cons.mp h with rfl | h
  · exact n__law_way K
  rcases List.mem_cons.mp h with rfl | h
  · exact n__law_divided K
  rcases List.mem_cons.mp h with rfl | h
  · exact n__law_paper_from K
  rcases List.mem_cons.mp h with rfl | h
  · exact n__law_paper K
  rcases List.mem_cons.mp h with rfl | h
  · exact n__law_alone K
  rcases List.mem_cons.mp h with rfl | h
  · exact n__law_half K
  rcases List.mem_cons.mp h with rfl | h
  · exact n__law_span K
  rcases List.mem_cons.mp h with rfl | h
  · exact n__law_scaled K
  rcases List.mem_cons.mp h with rfl | h
  · exact n__law_told K
  rcases List.mem_cons.mp h with rfl | h
  · exact n_law K
  cases h
end C87
end
set_option Elab.async false
set_option linter.all false
set_option maxRecDepth 100000
set_option maxHeartbeats 4000000
/-! what the program's small defs come to -/
namespace P87
open PySem L2 Ev C87 Pd
def sm (x : Int) : Prop := -(2 ^ 63) < x ∧ x < 2 ^ 63
theorem sm_bits {x : Int} (h : sm x) : Builtin.Int.intBits x ≤ 64 := by
  unfold Builtin.Int.intBits
  split
  · omega
  · rename_i hx
    have h2 : x.natAbs < 2 ^ 63 := by
      have := h.1
      have := h.2
      omega
    have hx : x.natAbs ≠ 0 := by
      intro z
      apply hx
      have : x = 0 := by omega
      subst this
      rfl
    have := (Nat.log2_lt hx).mpr h2
    omega
theorem mulL {a b : Int} (h : sm a) : IntMulOk a b := IntMulOk.of_left (sm_bits h)
theorem mulR {a b : Int} (h : sm b) : IntMulOk a b := IntMulOk.of_right (sm_bits h)
theorem divOk {a b : Int} (h : sm b) : Builtin.divisionGoesByPylong a b = false := by
  have h1 := sm_bits h
  unfold Builtin.Int.intBits at h1
  unfold Builtin.divisionGoesByPylong
  by_cases z : b = 0
  · subst z
    rfl
  · have hb : (b == 0) = false := by simpa using z
    rw [hb] at h1
    simp only [hb]
    have : b.natAbs.log2 / 30 + 1 ≤ 300 := by
      have : b.natAbs.log2 + 1 ≤ 64 := h1
      omega
    simp
    intro q
    omega
@[simp] theorem told (n : Nat) (a b : Int) (ob : List OE) : S_told_order n [.int a, .int b] ob = some (.ret false (.int (sgn a b)) ob) := by
  rw [E_told_order]
  unfold b_told_order sgn
  by_cases h : a < b <;> simp [h]
theorem fmod_gcd (f o : Int) : Int.gcd o (f.fmod o) = Int.gcd f o := by
  rw [Int.fmod_def, Int.gcd_sub_mul_left_right, Int.gcd_comm]
theorem fmod_abs (f : Int) {o : Int} (h : o ≠ 0) : (f.fmod o).natAbs < o.natAbs := by
  by_cases p : 0 < o
  · have := Int.fmod_lt_of_pos f p
    have := Int.fmod_nonneg_of_pos f p
    omega
  · have q : 0 < -o := by omega
    have := Int.fmod_lt_of_pos (-f) q
    have := Int.fmod_nonneg_of_pos (-f) q
    rw [Int.neg_fmod_neg] at *
    omega
theorem shared_loop (G : Tab) (row : D) (ob : List OE) : ∀ (k : Nat) (f o : Int) (r : Option (Bool × D)), o.natAbs ≤ k → ∃ (f' : Int) (r' : Option (Bool × D)), f'.natAbs = Int.gcd f o ∧
   whl ((ev G (.cmp .NotEq (.var 2) (.con (.int 0)))).T) (evS G (.seq (.asg 3 (.bin .Mod (.var 1) (.var 2)))
    (.seq (.asg 1 (.var 2))
    (.seq (.asg 2 (.var 3))
    (.nil))))) ⟨[some (false, row), some (false, .int f), some (false, .int o), r], ob⟩ = some (.nx ⟨[some (false, row), some (false, .int f'), some (false, .int 0), r'], ob⟩) := by
  intro k
  induction k with
  | zero =>
    intro f o r h
    have : o = 0 := by omega
    subst this
    exact ⟨f, r, by simp, whl_end (by simp)⟩
  | succ k ih =>
    intro f o r h
    by_cases ho : o = 0
    · subst ho
      exact ⟨f, r, by simp, whl_end (by simp)⟩
    · have := fmod_abs f ho
      obtain ⟨f', r', e1, e2⟩ := ih o (f.fmod o) (some (false, .int (f.fmod o))) (by omega)
      exact ⟨f', r', by rw [e1, fmod_gcd], whl_turn (s1 := ⟨[some (false, row), some (false, .int f), some (false, .int o), r], ob⟩) (by simp [ho]) (by simp [ho]) e2⟩
@[simp] theorem shared2 (n : Nat) (a b : Int) (ob : List OE) : S_shared n [.lst [.int a, .int b]] ob = some (.ret false (.int (Int.gcd a b)) ob) := by
  rw [E_shared]
  unfold b_shared
  obtain ⟨f1, r1, h1, e1⟩ := shared_loop (tab t.lw n) (.lst [.int a, .int b]) ob a.natAbs 0 a none (Nat.le_refl _)
  obtain ⟨f2, r2, h2, e2⟩ := shared_loop (tab t.lw n) (.lst [.int a, .int b]) ob b.natAbs f1 b r1 (Nat.le_refl _)
  have e : Int.gcd f1 b = Int.gcd a b := by
    have : f1.natAbs = a.natAbs := by rw [h1]; simp
    rw [Int.gcd_eq_natAbs_gcd_natAbs, this, ← Int.gcd_eq_natAbs_gcd_natAbs]
  rw [e] at h2
  simp [s_whl, e1, e2]
  omega
/-- a fraction -/
def rt (a b : Int) : D := .ins 4 [1, 0] [.int a, .int b]
theorem ratio_init (n : Nat) (a b : Int) (hb : 0 < b) (hs : sm b) : S_Ratio___init__ (n + 1) [.obj 0, .int a, .int b] [.ins 4 [] []] = some (.ret false .non [.ins 4 [1, 0] [.int (a.fdiv (Int.gcd a b)), .int (b.fdiv (Int.gcd a b))]]) := by
  rw [E_Ratio___init__]
  unfold b_Ratio___init__
  have h1 : ¬ b = 0 := by omega
  have h2 : ¬ b < 0 := by omega
  have g : Int.gcd a b ≠ 0 := by
    intro z
    have := (Int.gcd_eq_zero_iff.mp z).2
    omega
  have gs : sm (Int.gcd a b) := by
    have := Int.gcd_le_right a hb
    exact ⟨by omega, by have := hs.2; omega⟩
  simp [h1, h2, g, divOk gs, putD]
/-- the fraction t / d as the program keeps it -/
structure Fr (t d a b : Int) : Prop where
  pos : 0 < b
  eq : a * d = t * b
  sa : sm a
  sb : sm b
@[simp] theorem rt_top (n : Nat) (a b : Int) (s : Stt) : attrD (tab t.lw n).att 1 (rt a b) s = some (.int a) := by cases n <;> rfl
@[simp] theorem rt_bottom (n : Nat) (a b : Int) (s : Stt) : attrD (tab t.lw n).att 0 (rt a b) s = some (.int b) := by cases n <;> rfl
@[simp] theorem rt_against (a b : Int) (s : Stt) : clsD 14 (rt a b) s = some 4 := rfl
theorem ratio_make (n : Nat) (t d : Int) (hd : 0 < d) (hs : sm d) (ht : sm t) (ob : List OE) : ∃ a b, Fr t d a b ∧ mkF 4 (S_Ratio___init__ (n + 1)) [.int t, .int d] ob = some (.ret false (rt a b) ob) := by
  refine ⟨t.fdiv (Int.gcd t d), d.fdiv (Int.gcd t d), ?_, ?_⟩
  · have g : (0 : Int) < Int.gcd t d := by
      have : Int.gcd t d ≠ 0 := by
        intro z
        have := (Int.gcd_eq_zero_iff.mp z).2
        omega
      omega
    obtain ⟨x, hx⟩ := Int.gcd_dvd_left t d
    obtain ⟨y, hy⟩ := Int.gcd_dvd_right t d
    have e1 : t.fdiv (Int.gcd t d) = x := by
      rw [Int.fdiv_eq_ediv_of_nonneg _ (by omega)]
      exact Int.ediv_eq_of_eq_mul_right (by omega) hx
    have e2 : d.fdiv (Int.gcd t d) = y := by
      rw [Int.fdiv_eq_ediv_of_nonneg _ (by omega)]
      exact Int.ediv_eq_of_eq_mul_right (by omega) hy
    rw [e1, e2]
    have hg : (1 : Int) ≤ Int.gcd t d := by omega
    generalize hG : (Int.gcd t d : Int) = G at *
    have yp : 0 < y := by
      by_cases z : 0 < y
      · exact z
      · have := Int.mul_nonneg (show 0 ≤ G by omega) (show 0 ≤ -y by omega)
        grind
    refine ⟨yp, by grind, ?_, ?_⟩
    · have h1 : x.natAbs ≤ t.natAbs := by
        rw [hx, Int.natAbs_mul]
        exact Nat.le_mul_of_pos_left _ (by omega)
      have := ht.1
      have := ht.2
      exact ⟨by omega, by omega⟩
    · have h1 : y.natAbs ≤ d.natAbs := by
        rw [hy, Int.natAbs_mul]
        exact Nat.le_mul_of_pos_left _ (by omega)
      have := hs.2
      exact ⟨by omega, by omega⟩
  · unfold mkF
    rw [if_pos (show pureD.pureL [D.int t, D.int d] = true from rfl), ratio_init n t d hd hs]
    simp [rt, pureD.pureL, pureD]
@[simp] theorem against (n : Nat) (a b c d : Int) (ob : List OE) (ha : sm a) (hc : sm c) : S_Ratio_against (n + 1) [rt a b, rt c d] ob = some (.ret false (.int (sgn (a * d) (c * b))) ob) := by
  rw [E_Ratio_against]
  unfold b_Ratio_against
  simp [mulL ha, mulL hc]
/-! ### polynomials -/
abbrev pl (p : List Int) : D := .lst (intl p)
theorem len_intl (p : List Int) : (intl p).length = p.length := by simp [intl]
theorem atI_nat {α : Type} (l : List α) (k : Nat) : atI l (k : Int) = l[k]? := by
  unfold atI ixN
  by_cases h : k < l.length
  · rw [if_pos (by omega), if_pos (by omega)]
    rfl
  · rw [if_pos (by omega), if_neg (by omega), List.getElem?_eq_none (by omega)]
    rfl
theorem atI_last {α : Type} (l : List α) : atI l (-1) = l.getLast? := by
  unfold atI ixN
  rw [if_neg (by omega)]
  by_cases h : 0 < l.length
  · rw [if_pos (by omega), List.getLast?_eq_getElem?]
    show l[((-1 : Int) + l.length).toNat]? = _
    congr 1
    omega
  · rw [if_neg (by omega)]
    have : l = [] := List.eq_nil_of_length_eq_zero (by omega)
    subst this
    rfl
theorem get_intl (p : List Int) (k : Nat) : (intl p)[k]? = (p[k]?).map .int := by simp [intl]
theorem poly_loop (G : Tab) (p : List Int) (ob : List OE) : ∀ k : Nat, k ≤ p.length →
   whl ((ev G (.and (.cmp .Gt (.var 1) (.con (.int 0))) (.cmp .Eq (.idx (.var 0) (.bin .Sub (.var 1) (.con (.int 1)))) (.con (.int 0))))).T) (evS G (.seq (.asg 1 (.bin .Sub (.var 1) (.con (.int 1))))
    (.nil))) ⟨[some (false, pl p), some (false, .int k)], ob⟩ = some (.nx ⟨[some (false, pl p), some (false, .int (sz p k))], ob⟩)
  | 0, _ => whl_end (by simp [sz])
  | k + 1, h => by
    have hk : p[k]? = some p[k] := List.getElem?_eq_getElem (by omega)
    have e0 : ((k + 1 : Nat) : Int) - 1 = (k : Nat) := by omega
    have e1 : (0 : Int) < ((k + 1 : Nat) : Int) := by omega
    by_cases z : p[k] = 0
    · have es : sz p (k + 1) = sz p k := by
        show (if p[k]? = some 0 then sz p k else k + 1) = _
        rw [hk, z, if_pos rfl]
      rw [es]
      refine whl_turn (s1 := ⟨[some (false, pl p), some (false, .int ((k + 1 : Nat) : Int))], ob⟩) ?_ ?_ (poly_loop G p ob k (by omega))
      · simp [e0, e1, atI_nat, get_intl, hk, z]
      · simp
    · have es : sz p (k + 1) = k + 1 := by
        show (if p[k]? = some 0 then sz p k else k + 1) = _
        rw [hk, if_neg (by simpa using z)]
      rw [es]
      refine whl_end ?_
      simp only [t_and, t_cmp, tstE, e_cmp, e_idx, e_bin, e_con, opnd_var, o_con, o_idx, o_bin, peek, conD]
      simp [e0, atI_nat, get_intl, hk, z]
theorem intl_take (p : List Int) (k : Nat) : intl (p.take k) = (intl p).take k := by simp [intl, List.map_take]
@[simp] theorem poly_ok (n : Nat) (p : List Int) (ob : List OE) : S_poly n [pl p] ob = some (.ret true (pl (strip p)) ob) := by
  rw [E_poly]
  unfold b_poly
  have h := poly_loop (tab t.lw n) p ob p.length (Nat.le_refl _)
  have hs := sz_le p p.length
  simp [s_whl, len_intl, h, cut, HT.sIx_none, HT.sIx_nat, strip, intl_take, Nat.min_eq_left hs]
@[simp] theorem degree_ok (n : Nat) (p : List Int) (ob : List OE) : S_degree n [pl p] ob = some (.ret false (.int ((p.length : Int) - 1)) ob) := by
  rw [E_degree]
  unfold b_degree
  simp [len_intl]
/-- all of them small -/
def sml (p : List Int) : Prop := ∀ x ∈ p, sm x
theorem top_loop (n : Nat) (q : D) (a b : Int) (ha : sm a) (hb : sm b) (ob : List OE) : ∀ (p : List Int), sml p → ∃ o, 
    forR (fun d s => (setD 4 (false, d) s).bind (evS (tab t.lw n) (.seq (.asg 2 (.bin .Add (.bin .Mult (.var 2) (.attr 1 (.var 1))) (.bin .Mult (.var 4) (.var 3))))
    (.seq (.asg 3 (.bin .Mult (.var 3) (.attr 0 (.var 1))))
    (.nil))))) (intl p.reverse) ⟨[some (false, q), some (false, rt a b), some (false, .int 0), some (false, .int 1), none], ob⟩ = some (.nx ⟨[some (false, q), some (false, rt a b), some (false, .int (th a b p).1), some (false, .int (th a b p).2), o], ob⟩)
  | [], _ => ⟨none, rfl⟩
  | c :: r, h => by
    obtain ⟨o, e⟩ := top_loop n q a b ha hb ob r fun x hx => h x (List.mem_cons_of_mem _ hx)
    have hc := h c (List.mem_cons_self ..)
    refine ⟨some (false, .int c), ?_⟩
    have e1 : intl (c :: r).reverse = intl r.reverse ++ [.int c] := by simp [intl]
    rw [e1]
    rw [forR_app, e, thenO_nx]
    simp [mulR ha, mulR hb, mulL hc, th]
@[simp] theorem top_at_ok (n : Nat) (p : List Int) (a b : Int) (ob : List OE) (hp : sml p) (ha : sm a) (hb : sm b) : S_top_at n [pl p, rt a b] ob = some (.ret false (.int (th a b p).1) ob) := by
  rw [E_top_at]
  unfold b_top_at
  obtain ⟨o, e⟩ := top_loop n (pl p) a b ha hb ob p hp
  have er : (intl p).reverse = intl p.reverse := by simp [intl]
  simp [er, e]
@[simp] theorem sign_at_ok (n : Nat) (p : List Int) (a b : Int) (ob : List OE) (hp : sml p) (ha : sm a) (hb : sm b) : S_sign_at (n + 1) [pl p, rt a b] ob = some (.ret false (.int (sgn (th a b p).1 0)) ob) := by
  rw [E_sign_at]
  unfold b_sign_at
  simp [hp, ha, hb]
theorem set_intl (p : List Int) (j : Nat) (x : Int) : (intl p).set j (.int x) = intl (p.set j x) := by simp [intl, List.map_set]
theorem ixN_nat {n k : Nat} (h : k < n) : ixN n (k : Int) = some k := by
  unfold ixN
  rw [if_pos (by omega), if_pos (by omega)]
  rfl
/-- a span's or a paper's end: a small fraction -/
structure En where
  a : Int
  b : Int
  ha : sm a
  hb : sm b
def En.d (e : En) : D := rt e.a e.b
/-- low is not above high -/
def En.cmp (x y : En) : Int := sgn (x.a * y.b) (y.a * x.b)
def En.sg (x : En) (p : List Int) : Int := sgn (th x.a x.b p).1 0
@[simp] theorem against_e (n : Nat) (x y : En) (ob : List OE) : S_Ratio_against (n + 1) [x.d, y.d] ob = some (.ret false (.int (x.cmp y)) ob) := against n x.a x.b y.a y.b ob x.ha y.ha
@[simp] theorem en_against (x : En) (s : Stt) : clsD 14 x.d s = some 4 := rfl
end P87
set_option Elab.async false
set_option linter.all false
set_option maxRecDepth 100000
set_option maxHeartbeats 4000000
/-! what the program's defs come to, for large numbers: shared divisors, slopes, products, rows, the looker at a root's paper -/
namespace P87
open PySem L2 Ev C87 Pd
theorem shared_for (G : Tab) (ob : List OE) (row : D) : ∀ (p : List Int) (f : Int) (g : Nat) (o2 o3 : Option (Bool × D)), f.natAbs = g → ∃ f' o2' o3', f'.natAbs = gcf g p ∧
    forR (fun d s => (setD 2 (false, d) s).bind (evS G (.seq (.whl (.cmp .NotEq (.var 2) (.con (.int 0))) (.seq (.asg 3 (.bin .Mod (.var 1) (.var 2)))
    (.seq (.asg 1 (.var 2))
    (.seq (.asg 2 (.var 3))
    (.nil)))))
    (.nil)))) (intl p) ⟨[some (false, row), some (false, .int f), o2, o3], ob⟩ = some (.nx ⟨[some (false, row), some (false, .int f'), o2', o3'], ob⟩)
  | [], f, g, o2, o3, h => ⟨f, o2, o3, h, rfl⟩
  | x :: r, f, g, o2, o3, h => by
    obtain ⟨f1, r1, h1, e1⟩ := shared_loop G row ob x.natAbs f x o3 (Nat.le_refl _)
    have hg : f1.natAbs = Int.gcd (g : Int) x := by
      rw [h1, Int.gcd_eq_natAbs_gcd_natAbs, Int.gcd_eq_natAbs_gcd_natAbs, h]
      rfl
    obtain ⟨f2, a2, a3, h2, e2⟩ := shared_for G ob row r f1 _ (some (false, .int 0)) r1 hg
    refine ⟨f2, a2, a3, h2, ?_⟩
    have ei : intl (x :: r) = .int x :: intl r := rfl
    rw [ei, forR_cons]
    have step : (setD 2 (false, .int x) ⟨[some (false, row), some (false, .int f), o2, o3], ob⟩).bind (evS G (.seq (.whl (.cmp .NotEq (.var 2) (.con (.int 0))) (.seq (.asg 3 (.bin .Mod (.var 1) (.var 2)))
    (.seq (.asg 1 (.var 2))
    (.seq (.asg 2 (.var 3))
    (.nil)))))
    (.nil))) = some (.nx ⟨[some (false, row), some (false, .int f1), some (false, .int 0), r1], ob⟩) := by
      show evS G _ ⟨[some (false, row), some (false, .int f), some (false, .int x), o3], ob⟩ = _
      exact seq_nx (by rw [s_whl]; exact e1) (by simp)
    rw [step, thenO_nx]
    exact e2
@[simp] theorem shared_ok (n : Nat) (p : List Int) (ob : List OE) : S_shared n [pl p] ob = some (.ret false (.int (gc p)) ob) := by
  rw [E_shared]
  unfold b_shared
  obtain ⟨f, o2, o3, h, e⟩ := shared_for (tab t.lw n) ob (pl p) p 0 0 none none rfl
  have ha : (if f < 0 then -f else f) = (gc p : Int) := by
    unfold gc
    split <;> omega
  refine def_rt (s := ⟨[some (false, pl p), some (false, .int f), o2, o3], ob⟩) ?_ rfl
  refine seq_nx (s1 := ⟨[some (false, pl p), some (false, .int 0), none, none], ob⟩) (by simp) ?_
  refine seq_nx (s1 := ⟨[some (false, pl p), some (false, .int f), o2, o3], ob⟩) (by simp; exact e) ?_
  exact seq_rt (by simp [ha])
theorem shrunk_ok (n : Nat) (p : List Int) (ob : List OE) (hn : Nz p) (hb : btl 8900 p) (hl : p.length < 1000000) : S_shrunk (n + 1) [pl p] ob = some (.ret true (pl (shr p)) ob) := by
  rw [E_shrunk]
  unfold b_shrunk
  have hc : compR 2 (ev (tab t.lw (n + 1)) (.bin .FloorDiv (.var 2) (.var 1))).E none (intl p) [] ⟨[some (false, pl p), some (false, .int (gc p)), none], ob⟩ = some (.ok (intl (shr p)) ⟨[some (false, pl p), some (false, .int (gc p)), none], ob⟩) := by
    by_cases hp : p = []
    · subst hp
      rfl
    · have g0 : ((gc p : Nat) : Int) ≠ 0 := by have := gc_pos hn hp; omega
      have gd : ∀ x, Builtin.divisionGoesByPylong x (gc p : Int) = false := fun x => bt.divOk (gc_bt hn hp hb)
      have g1 : ¬ gc p = 0 := by omega
      rw [compR_int (fun x => .int (x.fdiv (gc p))) rfl (fun x hx => ⟨false, by simp [g0, g1, gd]⟩) (by simp; omega)]
      simp [intl, shr]
  simp [hc]
@[simp] theorem coef_at_ok (n : Nat) (p : List Int) (k : Nat) (ob : List OE) : S_coefficient_at n [pl p, .int k] ob = some (.ret false (.int (ic p k)) ob) := by
  rw [E_coefficient_at]
  unfold b_coefficient_at
  by_cases h : k < p.length
  · have e : p[k]? = some p[k] := List.getElem?_eq_getElem h
    have e2 : atI (intl p) (k : Int) = some (.int p[k]) := by rw [atI_nat, get_intl, e]; rfl
    simp [len_intl, h, e2, ic, e]
  · have e : p[k]? = none := List.getElem?_eq_none (by omega)
    simp [len_intl, h, ic, e]
theorem rng_map (m : Nat) {α : Type} (f : Int → α) : (rngI 0 (m : Int)).map f = (List.range m).map fun k : Nat => f (k : Int) := by
  unfold rngI
  rw [show ((m : Int) - 0).toNat = m by omega, List.map_map]
  refine List.map_congr_left fun k _ => ?_
  simp
theorem mem_rng {m : Nat} {x : Int} (h : x ∈ rngI 0 (m : Int)) : ∃ k : Nat, x = (k : Int) ∧ k < m := by
  unfold rngI at h
  obtain ⟨k, hk, rfl⟩ := List.mem_map.mp h
  exact ⟨k, by simp, by have := List.mem_range.mp hk; omega⟩
theorem taken_ok (n : Nat) (p q : List Int) (ob : List OE) (hp : p.length < 1000000) (hq : q.length < 1000000) : S_taken (n + 1) [pl p, pl q] ob = some (.ret true (pl (strip (subL p q))) ob) := by
  rw [E_taken]
  unfold b_taken
  obtain ⟨m, hmx⟩ : ∃ m : Nat, max p.length q.length = m := ⟨_, rfl⟩
  have hm : b2D .max (.int (p.length : Int)) (.int (q.length : Int)) = some (.int (m : Int)) := by
    show some (D.int (if (q.length : Int) > p.length then (q.length : Int) else p.length)) = _
    congr 2
    split <;> omega
  have hok : rng1D (.int (m : Int)) = some (intl (rngI 0 (m : Int))) := rng1_nat (by omega)
  have hc : compR 2 (ev (tab t.lw (n + 1)) (.bin .Sub (.call 7 (.acons (.var 0) (.acons (.var 2) (.anil)))) (.call 7 (.acons (.var 1) (.acons (.var 2) (.anil)))))).E none (intl (rngI 0 (m : Int))) [] ⟨[some (false, pl p), some (false, pl q), none], ob⟩ = some (.ok (intl (subL p q)) ⟨[some (false, pl p), some (false, pl q), none], ob⟩) := by
    rw [compR_int (fun x => .int (ic p x.toNat - ic q x.toNat)) rfl (fun x hx => by
      obtain ⟨k, rfl, _⟩ := mem_rng hx
      exact ⟨false, by simp⟩) (by rw [rng0_len]; simp; omega)]
    rw [rng_map]
    simp [intl, subL, hmx]
  simp [len_intl, hm, hok, hc, -b2_max]
/-! ### products -/
theorem mulI (G : Tab) (P Q : List Int) (k : Nat) (c : Int) (ob : List OE) (hk : P[k]? = some c) (hm : ∀ x ∈ Q, IntMulOk c x) : ∀ (m i : Nat) (r : List Int) (o4 : Option (Bool × D)), i + m = Q.length → k + Q.length ≤ r.length → ∃ o4',
    forR (fun d s => (setD 4 (false, d) s).bind (evS G (.seq (.sub 2 (.bin .Add (.var 3) (.var 4)) (.bin .Add (.idx (.var 2) (.bin .Add (.var 3) (.var 4))) (.bin .Mult (.idx (.var 0) (.var 3)) (.idx (.var 1) (.var 4)))))
    (.nil)))) ((List.range' i m).map fun j : Nat => D.int (j : Int)) ⟨[some (false, pl P), some (false, pl Q), some (true, pl r), some (false, .int k), o4], ob⟩ =
      some (.nx ⟨[some (false, pl P), some (false, pl Q), some (true, pl (adA c (Q.drop i) (k + i) r)), some (false, .int k), o4'], ob⟩)
  | 0, i, r, o4, h, _ => by
    refine ⟨o4, ?_⟩
    have : Q.drop i = [] := List.drop_eq_nil_of_le (by omega)
    rw [this]
    rfl
  | m + 1, i, r, o4, h, hl => by
    have hi : i < Q.length := by omega
    have hq : Q[i]? = some Q[i] := List.getElem?_eq_getElem hi
    obtain ⟨o4', e⟩ := mulI G P Q k c ob hk hm m (i + 1) (r.set (k + i) ((r[k + i]?).getD 0 + c * Q[i])) (some (false, .int i)) (by omega) (by simp; omega)
    refine ⟨o4', ?_⟩
    rw [List.range'_succ, List.map_cons, forR_cons]
    have hs : (k : Int) + i = ((k + i : Nat) : Int) := by omega
    have hr : r[k + i]? = some r[k + i] := List.getElem?_eq_getElem (by omega)
    have hx : k + i < r.length := by omega
    have hmq := hm Q[i] (List.getElem_mem hi)
    have step : (setD 4 (false, .int i) ⟨[some (false, pl P), some (false, pl Q), some (true, pl r), some (false, .int k), o4], ob⟩).bind (evS G (.seq (.sub 2 (.bin .Add (.var 3) (.var 4)) (.bin .Add (.idx (.var 2) (.bin .Add (.var 3) (.var 4))) (.bin .Mult (.idx (.var 0) (.var 3)) (.idx (.var 1) (.var 4)))))
      (.nil))) = some (.nx ⟨[some (false, pl P), some (false, pl Q), some (true, pl (r.set (k + i) ((r[k + i]?).getD 0 + c * Q[i]))), some (false, .int k), some (false, .int i)], ob⟩) := by
      simp [-Int.natCast_add, hs, atI_nat, get_intl, hr, hk, hq, hmq, len_intl, ixN_nat hx, set_intl]
    rw [step, thenO_nx, e]
    have hd : Q.drop i = Q[i] :: Q.drop (i + 1) := List.drop_eq_getElem_cons hi
    have ea : adA c (Q.drop i) (k + i) r = adA c (Q.drop (i + 1)) (k + (i + 1)) (r.set (k + i) ((r[k + i]?).getD 0 + c * Q[i])) := by
      rw [hd]
      show subAt (-c) (k + i + 1) (Q.drop (i + 1)) (r.set (k + i) ((r[k + i]?).getD 0 - -c * Q[i])) = subAt (-c) (k + (i + 1)) (Q.drop (i + 1)) (r.set (k + i) ((r[k + i]?).getD 0 + c * Q[i]))
      rw [show (r[k + i]?).getD 0 - -c * Q[i] = (r[k + i]?).getD 0 + c * Q[i] by grind]
      rfl
    rw [ea]
theorem mulO (G : Tab) (P Q : List Int) (ob : List OE) (hsz : Q.length < 1000000) (hm : ∀ c ∈ P, ∀ x ∈ Q, IntMulOk c x) : ∀ (m k : Nat) (r : List Int) (o3 o4 : Option (Bool × D)), k + m = P.length → P.length + Q.length ≤ r.length → ∃ o3' o4',
    forR (fun d s => (setD 3 (false, d) s).bind (evS G (.seq (.forn 4 (.rng1 (.b1 .len (.var 1))) (.seq (.sub 2 (.bin .Add (.var 3) (.var 4)) (.bin .Add (.idx (.var 2) (.bin .Add (.var 3) (.var 4))) (.bin .Mult (.idx (.var 0) (.var 3)) (.idx (.var 1) (.var 4)))))
    (.nil)))
    (.nil)))) ((List.range' k m).map fun j : Nat => D.int (j : Int)) ⟨[some (false, pl P), some (false, pl Q), some (true, pl r), o3, o4], ob⟩ =
      some (.nx ⟨[some (false, pl P), some (false, pl Q), some (true, pl (muL Q k (P.drop k) r)), o3', o4'], ob⟩)
  | 0, k, r, o3, o4, h, _ => by
    refine ⟨o3, o4, ?_⟩
    have : P.drop k = [] := List.drop_eq_nil_of_le (by omega)
    rw [this]
    rfl
  | m + 1, k, r, o3, o4, h, hl => by
    have hk : k < P.length := by omega
    have hp : P[k]? = some P[k] := List.getElem?_eq_getElem hk
    obtain ⟨o4a, e1⟩ := mulI G P Q k P[k] ob hp (hm P[k] (List.getElem_mem hk)) Q.length 0 r o4 (by omega) (by omega)
    obtain ⟨o3', o4', e2⟩ := mulO G P Q ob hsz hm m (k + 1) (adA P[k] Q k r) (some (false, .int k)) o4a (by omega) (by rw [adA_len]; omega)
    refine ⟨o3', o4', ?_⟩
    rw [List.range'_succ, List.map_cons, forR_cons]
    have hok : rng1D (.int (Q.length : Int)) = some ((List.range' 0 Q.length).map fun j : Nat => D.int (j : Int)) := by
      rw [rng1_nat (by omega)]
      unfold intl
      rw [rng_map, List.range_eq_range']
    rw [List.drop_zero, Nat.add_zero] at e1
    have step : (setD 3 (false, .int k) ⟨[some (false, pl P), some (false, pl Q), some (true, pl r), o3, o4], ob⟩).bind (evS G (.seq (.forn 4 (.rng1 (.b1 .len (.var 1))) (.seq (.sub 2 (.bin .Add (.var 3) (.var 4)) (.bin .Add (.idx (.var 2) (.bin .Add (.var 3) (.var 4))) (.bin .Mult (.idx (.var 0) (.var 3)) (.idx (.var 1) (.var 4)))))
      (.nil)))
      (.nil))) = some (.nx ⟨[some (false, pl P), some (false, pl Q), some (true, pl (adA P[k] Q k r)), some (false, .int k), o4a], ob⟩) := by
      rw [show setD 3 (false, .int k) ⟨[some (false, pl P), some (false, pl Q), some (true, pl r), o3, o4], ob⟩ = some ⟨[some (false, pl P), some (false, pl Q), some (true, pl r), some (false, .int k), o4], ob⟩ from rfl, Option.bind_some]
      have hI : (ev G (.rng1 (.b1 .len (.var 1)))).I ⟨[some (false, pl P), some (false, pl Q), some (true, pl r), some (false, .int k), o4], ob⟩ = some (.ok ((List.range' 0 Q.length).map fun j : Nat => D.int (j : Int)) ⟨[some (false, pl P), some (false, pl Q), some (true, pl r), some (false, .int k), o4], ob⟩) := by
        simp [len_intl, hok]
      refine seq_nx (s1 := ⟨[some (false, pl P), some (false, pl Q), some (true, pl (adA P[k] Q k r)), some (false, .int k), o4a], ob⟩) ?_ (by simp)
      rw [s_forn, hI, obnd_ok]
      exact e1
    rw [step, thenO_nx, e2]
    have hd : P.drop k = P[k] :: P.drop (k + 1) := List.drop_eq_getElem_cons hk
    rw [hd]
    rfl
theorem multiplied_ok (n : Nat) (p q : List Int) (ob : List OE) (hm : ∀ c ∈ p, ∀ x ∈ q, IntMulOk c x) (hp : p.length < 1000000) (hq : q.length < 1000000) : S_multiplied (n + 1) [pl p, pl q] ob = some (.ret true (pl (strip (mulQ p q))) ob) := by
  rw [E_multiplied]
  unfold b_multiplied
  obtain ⟨o3, o4, e⟩ := mulO (tab t.lw (n + 1)) p q ob hq hm p.length 0 (List.replicate (p.length + q.length) 0) none none (by omega) (by simp)
  rw [List.drop_zero] at e
  have hok : rng1D (.int (p.length : Int)) = some ((List.range' 0 p.length).map fun j : Nat => D.int (j : Int)) := by
    rw [rng1_nat (by omega)]
    unfold intl
    rw [rng_map, List.range_eq_range']
  have hrep : (List.replicate ((p.length : Int) + (q.length : Int)).toNat [D.int 0]).flatten = intl (List.replicate (p.length + q.length) 0) := by
    rw [show ((p.length : Int) + (q.length : Int)).toNat = p.length + q.length by omega]
    generalize p.length + q.length = m
    induction m with
    | zero => rfl
    | succ m ih => rw [List.replicate_succ, List.flatten_cons, ih]; rfl
  refine def_rt (s := ⟨[some (false, pl p), some (false, pl q), some (false, pl (mulQ p q)), o3, o4], ob⟩) ?_ rfl
  refine seq_nx (s1 := ⟨[some (false, pl p), some (false, pl q), some (true, pl (List.replicate (p.length + q.length) 0)), none, none], ob⟩) (by
    have h1 : -(2 ^ 63) ≤ (p.length : Int) + (q.length : Int) := by omega
    have h2 : (p.length : Int) + (q.length : Int) < 2 ^ 63 := by omega
    have h3 : 1 * ((p.length : Int) + (q.length : Int)).toNat ≤ 16777216 := by omega
    have hb : binD .Mult (.lst [.int 0]) (.int ((p.length : Int) + (q.length : Int))) = some (true, .lst (intl (List.replicate (p.length + q.length) 0))) := by
      rw [bin_mull, if_pos ⟨h1, h2, h3⟩, hrep]
    have hL : (ev (tab t.lw (n + 1)) (.lst (.acons (.con (.int 0)) (.anil)))).E ⟨[some (false, pl p), some (false, pl q), none, none, none], ob⟩ = some (.ok (true, .lst [.int 0]) ⟨[some (false, pl p), some (false, pl q), none, none, none], ob⟩) := by simp
    have hR : (ev (tab t.lw (n + 1)) (.bin .Add (.b1 .len (.var 0)) (.b1 .len (.var 1)))).E ⟨[some (false, pl p), some (false, pl q), none, none, none], ob⟩ = some (.ok (false, .int ((p.length : Int) + (q.length : Int))) ⟨[some (false, pl p), some (false, pl q), none, none, none], ob⟩) := by simp [len_intl]
    show evS _ _ ⟨[some (false, pl p), some (false, pl q), none, none, none], ob⟩ = _
    rw [s_asg, e_bin, o_lst, hL, bnd_ok, bnd_ok, o_bin, hR, bnd_ok, bnd_ok, late_some, Option.bind_some, late_some, Option.bind_some, hb]
    rfl) ?_
  refine seq_nx (s1 := ⟨[some (false, pl p), some (false, pl q), some (true, pl (mulQ p q)), o3, o4], ob⟩) (by
    have hI : (ev (tab t.lw (n + 1)) (.rng1 (.b1 .len (.var 0)))).I ⟨[some (false, pl p), some (false, pl q), some (true, pl (List.replicate (p.length + q.length) 0)), none, none], ob⟩ = some (.ok ((List.range' 0 p.length).map fun j : Nat => D.int (j : Int)) ⟨[some (false, pl p), some (false, pl q), some (true, pl (List.replicate (p.length + q.length) 0)), none, none], ob⟩) := by
      simp [len_intl, hok]
    rw [s_forn, hI, obnd_ok]
    exact e) ?_
  exact seq_rt (by simp)
/-! ### slopes -/
theorem slope_ok (n : Nat) (p : List Int) (ob : List OE) (hl : p.length < 1000000) : S_slope n [pl p] ob = some (.ret true (pl (slp p)) ob) := by
  rw [E_slope]
  unfold b_slope
  have hok : rng2D (.int 1) (.int (p.length : Int)) = some (intl (rngI 1 (p.length : Int))) := by
    rw [rng2_i, if_pos ⟨rfl, okR_nat (by omega)⟩]
  have hc : compR 1 (ev (tab t.lw n) (.bin .Mult (.var 1) (.idx (.var 0) (.var 1)))).E none (intl (rngI 1 (p.length : Int))) [] ⟨[some (false, pl p), none], ob⟩ = some (.ok (intl (slp p)) ⟨[some (false, pl p), none], ob⟩) := by
    have hmem : ∀ x ∈ rngI 1 (p.length : Int), ∃ k : Nat, x = (k : Int) ∧ k < p.length := fun x hx => by
      unfold rngI at hx
      obtain ⟨k, hk, rfl⟩ := List.mem_map.mp hx
      have := List.mem_range.mp hk
      exact ⟨k + 1, by omega, by omega⟩
    rw [compR_int (fun x => .int (x * ic p x.toNat)) rfl (fun x hx => by
      obtain ⟨k, rfl, hk⟩ := hmem x hx
      have e : p[k]? = some p[k] := List.getElem?_eq_getElem hk
      have e2 : atI (intl p) (k : Int) = some (.int p[k]) := by rw [atI_nat, get_intl, e]; rfl
      have m : IntMulOk (k : Int) p[k] := mulL ⟨by omega, by omega⟩
      exact ⟨false, by simp [e2, m, ic, e]⟩) (by simp [rngI]; omega)]
    have hs : (rngI 1 (p.length : Int)).map (fun x : Int => x * ic p x.toNat) = slp p := by
      refine ic_ext' (by rw [slp_len]; simp [rngI]) fun i => ?_
      rw [ic_slp]
      show (((rngI 1 (p.length : Int)).map fun x : Int => x * ic p x.toNat)[i]?).getD 0 = _
      unfold rngI
      rw [List.map_map, List.getElem?_map]
      by_cases hi : i < ((p.length : Int) - 1).toNat
      · rw [List.getElem?_range hi]
        show (1 + (i : Int)) * ic p (1 + (i : Int)).toNat = _
        rw [show (1 + (i : Int)).toNat = i + 1 by omega, show (1 + (i : Int)) = (i : Int) + 1 by omega]
      · rw [List.getElem?_eq_none (by simp; omega), ic_ge (p := p) (by omega)]
        simp
    rw [List.nil_append, ← hs]
    simp [intl]
  have hI : (ev (tab t.lw n) (.rng2 (.con (.int 1)) (.b1 .len (.var 0)))).I ⟨[some (false, pl p), none], ob⟩ = some (.ok (intl (rngI 1 (p.length : Int))) ⟨[some (false, pl p), none], ob⟩) := by
    simp [len_intl, hok]
  refine def_rt (s := ⟨[some (false, pl p), none], ob⟩) (seq_rt ?_) rfl
  show evS _ _ ⟨[some (false, pl p), none], ob⟩ = _
  rw [s_ret_comp, e_comp, hI, bnd_ok]
  simp [hc]
end P87
set_option Elab.async false
set_option linter.all false
set_option maxRecDepth 100000
set_option maxHeartbeats 4000000
/-! the looker at a root's paper -/
namespace P87
open PySem L2 Ev C87 Pd
theorem sm_bt {x : Int} (h : sm x) : bt 63 x := bt_of 63 h.1 h.2
theorem th2_bt {a b : Int} (hb : sm b) : ∀ p : List Int, bt (63 * p.length + 1) (th a b p).2
  | [] => bt.one (by omega)
  | c :: r => by
    show bt (63 * (r.length + 1) + 1) ((th a b r).2 * b)
    have := (th2_bt (a := a) hb r).mul (sm_bt hb)
    exact this.mono (by omega)
theorem topB_loop (n : Nat) (q : D) (a b : Int) (ha : sm a) (hb : sm b) (K : Nat) (ob : List OE) (hK : K ≤ 1000000) : ∀ (p : List Int), btl K p → p.length ≤ 10000 → ∃ o, 
    forR (fun d s => (setD 4 (false, d) s).bind (evS (tab t.lw n) (.seq (.asg 2 (.bin .Add (.bin .Mult (.var 2) (.attr 1 (.var 1))) (.bin .Mult (.var 4) (.var 3))))
    (.seq (.asg 3 (.bin .Mult (.var 3) (.attr 0 (.var 1))))
    (.nil))))) (intl p.reverse) ⟨[some (false, q), some (false, rt a b), some (false, .int 0), some (false, .int 1), none], ob⟩ = some (.nx ⟨[some (false, q), some (false, rt a b), some (false, .int (th a b p).1), some (false, .int (th a b p).2), o], ob⟩)
  | [], _, _ => ⟨none, rfl⟩
  | c :: r, h, hl => by
    have hl2 : r.length + 1 ≤ 10000 := hl
    obtain ⟨o, e⟩ := topB_loop n q a b ha hb K ob hK r (fun x hx => h x (List.mem_cons_of_mem _ hx)) (by omega)
    have hc := h c (List.mem_cons_self ..)
    have hm : IntMulOk c (th a b r).2 := hc.mulOk (th2_bt hb r) (by omega)
    refine ⟨some (false, .int c), ?_⟩
    have e1 : intl (c :: r).reverse = intl r.reverse ++ [.int c] := by simp [intl]
    rw [e1]
    rw [forR_app, e, thenO_nx]
    simp [mulR ha, mulR hb, hm, th]
theorem topB_ok (n : Nat) (p : List Int) (a b : Int) (ob : List OE) (K : Nat) (hK : K ≤ 1000000) (hp : btl K p) (hl : p.length ≤ 10000) (ha : sm a) (hb : sm b) : S_top_at n [pl p, rt a b] ob = some (.ret false (.int (th a b p).1) ob) := by
  rw [E_top_at]
  unfold b_top_at
  obtain ⟨o, e⟩ := topB_loop n (pl p) a b ha hb K ob hK p hp hl
  have er : (intl p).reverse = intl p.reverse := by simp [intl]
  simp [er, e]
theorem signB_ok (n : Nat) (p : List Int) (x : En) (ob : List OE) (K : Nat) (hK : K ≤ 1000000) (hp : btl K p) (hl : p.length ≤ 10000) : S_sign_at (n + 1) [pl p, x.d] ob = some (.ret false (.int (x.sg p)) ob) := by
  rw [E_sign_at]
  unfold b_sign_at
  have e := topB_ok n p x.a x.b ob K hK hp hl x.ha x.hb
  have e : S_top_at n [pl p, x.d] ob = some (.ret false (.int (th x.a x.b p).1) ob) := e
  simp [e, En.sg]
/-- a row of polynomials, each of few bits -/
def rowOk (K : Nat) (row : List (List Int)) : Prop := ∀ p ∈ row, btl K p ∧ p.length ≤ 10000
theorem changes_for (n : Nat) (x : En) (K : Nat) (hK : K ≤ 1000000) (q : D) (ob : List OE) : ∀ (row : List (List Int)) (m l : Int) (o4 o5 : Option (Bool × D)), rowOk K row → ∃ m' l' o4' o5', m' = m + chG l (row.map fun p => x.sg p) ∧
    forR (fun d s => (setD 4 (false, d) s).bind (evS (tab t.lw (n + 2)) (.seq (.asg 5 (.call 9 (.acons (.var 4) (.acons (.var 1) (.anil)))))
    (.seq (.ite (.cmp .NotEq (.var 5) (.con (.int 0))) (.seq (.ite (.cmp .Eq (.var 3) (.bin .Sub (.con (.int 0)) (.var 5))) (.seq (.asg 2 (.bin .Add (.var 2) (.con (.int 1))))
    (.nil)) (.nil))
    (.seq (.asg 3 (.var 5))
    (.nil))) (.nil))
    (.nil))))) (row.map pl) ⟨[some (false, q), some (false, x.d), some (false, .int m), some (false, .int l), o4, o5], ob⟩ = some (.nx ⟨[some (false, q), some (false, x.d), some (false, .int m'), some (false, .int l'), o4', o5'], ob⟩)
  | [], m, l, o4, o5, _ => ⟨m, l, o4, o5, by show m = m + 0; omega, rfl⟩
  | p :: r, m, l, o4, o5, h => by
    obtain ⟨hp1, hp2⟩ := h p (List.mem_cons_self ..)
    have e1 := signB_ok n p x ob K hK hp1 hp2
    have hr : rowOk K r := fun q hq => h q (List.mem_cons_of_mem _ hq)
    by_cases h0 : x.sg p = 0
    · obtain ⟨m', l', a4, a5, hm, e⟩ := changes_for n x K hK q ob r m l (some (false, pl p)) (some (false, .int 0)) hr
      refine ⟨m', l', a4, a5, ?_, ?_⟩
      · rw [hm, List.map_cons, chG, if_pos h0]
      · rw [List.map_cons, forR_cons]
        rw [h0] at e1
        have step : (setD 4 (false, pl p) ⟨[some (false, q), some (false, x.d), some (false, .int m), some (false, .int l), o4, o5], ob⟩).bind (evS (tab t.lw (n + 2)) (.seq (.asg 5 (.call 9 (.acons (.var 4) (.acons (.var 1) (.anil)))))
          (.seq (.ite (.cmp .NotEq (.var 5) (.con (.int 0))) (.seq (.ite (.cmp .Eq (.var 3) (.bin .Sub (.con (.int 0)) (.var 5))) (.seq (.asg 2 (.bin .Add (.var 2) (.con (.int 1))))
          (.nil)) (.nil))
          (.seq (.asg 3 (.var 5))
          (.nil))) (.nil))
          (.nil)))) = some (.nx ⟨[some (false, q), some (false, x.d), some (false, .int m), some (false, .int l), some (false, pl p), some (false, .int 0)], ob⟩) := by simp [e1]
        rw [step, thenO_nx]
        exact e
    · by_cases h1 : l = -x.sg p
      · obtain ⟨m', l', a4, a5, hm, e⟩ := changes_for n x K hK q ob r (m + 1) (x.sg p) (some (false, pl p)) (some (false, .int (x.sg p))) hr
        refine ⟨m', l', a4, a5, ?_, ?_⟩
        · rw [hm, List.map_cons, chG, if_neg h0, if_pos h1]
          omega
        · rw [List.map_cons, forR_cons]
          have step : (setD 4 (false, pl p) ⟨[some (false, q), some (false, x.d), some (false, .int m), some (false, .int l), o4, o5], ob⟩).bind (evS (tab t.lw (n + 2)) (.seq (.asg 5 (.call 9 (.acons (.var 4) (.acons (.var 1) (.anil)))))
            (.seq (.ite (.cmp .NotEq (.var 5) (.con (.int 0))) (.seq (.ite (.cmp .Eq (.var 3) (.bin .Sub (.con (.int 0)) (.var 5))) (.seq (.asg 2 (.bin .Add (.var 2) (.con (.int 1))))
            (.nil)) (.nil))
            (.seq (.asg 3 (.var 5))
            (.nil))) (.nil))
            (.nil)))) = some (.nx ⟨[some (false, q), some (false, x.d), some (false, .int (m + 1)), some (false, .int (x.sg p)), some (false, pl p), some (false, .int (x.sg p))], ob⟩) := by simp [e1, h0, h1]
          rw [step, thenO_nx]
          exact e
      · obtain ⟨m', l', a4, a5, hm, e⟩ := changes_for n x K hK q ob r m (x.sg p) (some (false, pl p)) (some (false, .int (x.sg p))) hr
        refine ⟨m', l', a4, a5, ?_, ?_⟩
        · rw [hm, List.map_cons, chG, if_neg h0, if_neg h1]
          omega
        · rw [List.map_cons, forR_cons]
          have step : (setD 4 (false, pl p) ⟨[some (false, q), some (false, x.d), some (false, .int m), some (false, .int l), o4, o5], ob⟩).bind (evS (tab t.lw (n + 2)) (.seq (.asg 5 (.call 9 (.acons (.var 4) (.acons (.var 1) (.anil)))))
            (.seq (.ite (.cmp .NotEq (.var 5) (.con (.int 0))) (.seq (.ite (.cmp .Eq (.var 3) (.bin .Sub (.con (.int 0)) (.var 5))) (.seq (.asg 2 (.bin .Add (.var 2) (.con (.int 1))))
            (.nil)) (.nil))
            (.seq (.asg 3 (.var 5))
            (.nil))) (.nil))
            (.nil)))) = some (.nx ⟨[some (false, q), some (false, x.d), some (false, .int m), some (false, .int (x.sg p)), some (false, pl p), some (false, .int (x.sg p))], ob⟩) := by simp [e1, h0, h1]
          rw [step, thenO_nx]
          exact e
abbrev rw_ (row : List (List Int)) : D := .lst (row.map pl)
theorem changes_ok (n : Nat) (row : List (List Int)) (x : En) (ob : List OE) (K : Nat) (hK : K ≤ 1000000) (h : rowOk K row) : S_changes (n + 2) [rw_ row, x.d] ob = some (.ret false (.int (chG 0 (row.map fun p => x.sg p))) ob) := by
  rw [E_changes]
  unfold b_changes
  obtain ⟨m', l', o4, o5, hm, e⟩ := changes_for n x K hK (rw_ row) ob row 0 0 none none h
  rw [Int.zero_add] at hm
  subst hm
  refine def_rt (s := ⟨[some (false, rw_ row), some (false, x.d), none, some (false, .int l'), o4, o5], ob⟩) ?_ rfl
  refine seq_nx (s1 := ⟨[some (false, rw_ row), some (false, x.d), some (false, .int 0), none, none, none], ob⟩) (by simp) ?_
  refine seq_nx (s1 := ⟨[some (false, rw_ row), some (false, x.d), some (false, .int 0), some (false, .int 0), none, none], ob⟩) (by simp) ?_
  refine seq_nx (s1 := ⟨[some (false, rw_ row), some (false, x.d), some (false, .int (chG 0 (row.map fun p => x.sg p))), some (false, .int l'), o4, o5], ob⟩) (by
    simp
    exact e) ?_
  exact seq_rt (by simp)
def chE (row : List (List Int)) (x : En) : Int := chG 0 (row.map fun p => x.sg p)
theorem count_ok (n : Nat) (row : List (List Int)) (x y : En) (ob : List OE) (K : Nat) (hK : K ≤ 1000000) (h : rowOk K row) : S_count (n + 3) [rw_ row, x.d, y.d] ob = some (.ret false (.int (chE row x - chE row y)) ob) := by
  rw [E_count]
  unfold b_count
  have e1 := changes_ok n row x ob K hK h
  have e2 := changes_ok n row y ob K hK h
  simp [e1, e2, chE]
/-! ### links -/
structure Lk3 where
  f : Int
  q : List Int
  d : Int
def Lk3.D (l : Lk3) : D := .tup [.int l.f, pl l.q, .int l.d]
def holdsB (A B C : List Int) (l : Lk3) : Bool := decide (0 < l.f) && (decide (0 < l.d) && decide (strip (mulQ [l.f] A) = strip (subL (strip (mulQ l.q B)) (strip (mulQ [l.d] C)))))
theorem mul_bt {j k : Nat} {p q : List Int} (hp : btl j p) (hq : btl k q) (h : j + k ≤ 100000000) : ∀ c ∈ p, ∀ x ∈ q, IntMulOk c x := fun c hc x hx => (hp c hc).mulOk (hq x hx) h
theorem strip_le (p : List Int) : (strip p).length ≤ p.length := by
  rw [strip_len]
  exact sz_le p p.length
theorem mulQ_len (p q : List Int) : (mulQ p q).length = p.length + q.length := by
  unfold mulQ
  rw [muL_len]
  simp
/-- few bits, not too long -/
structure Few (K : Nat) (p : List Int) : Prop where
  b : btl K p
  l : p.length ≤ 10000
theorem link_ok (n : Nat) (row : List (List Int)) (k : Nat) (A B C : List Int) (l : Lk3) (ob : List OE) (K : Nat) (hK : K ≤ 1000000) (hA : row[k]? = some A) (hB : row[k + 1]? = some B) (hC : row[k + 2]? = some C) (fA : Few K A) (fB : Few K B) (fC : Few K C) (fq : Few K l.q) (ff : bt K l.f) (fd : bt K l.d) : S_link_holds (n + 2) [rw_ row, .int k, l.D] ob = some (.ret false (.bl (holdsB A B C l)) ob) := by
  rw [E_link_holds]
  unfold b_link_holds
  have at_ : ∀ {i : Nat} {P : List Int}, row[i]? = some P → atI (row.map pl) (i : Int) = some (pl P) := fun {i P} h => by
    rw [atI_nat, List.getElem?_map, h]
    rfl
  have eA := at_ hA
  have eB := at_ hB
  have eC := at_ hC
  have k1 : (k : Int) + 1 = ((k + 1 : Nat) : Int) := by omega
  have k2 : (k : Int) + 2 = ((k + 2 : Nat) : Int) := by omega
  have s1 : btl K [l.f] := fun x hx => by
    have : x = l.f := by simpa using hx
    rw [this]
    exact ff
  have s2 : btl K [l.d] := fun x hx => by
    have : x = l.d := by simpa using hx
    rw [this]
    exact fd
  have m1 := multiplied_ok n [l.f] A ob (mul_bt s1 fA.b (by omega)) (by simp) (by have := fA.l; omega)
  have m2 := multiplied_ok n l.q B ob (mul_bt fq.b fB.b (by omega)) (by have := fq.l; omega) (by have := fB.l; omega)
  have m3 := multiplied_ok n [l.d] C ob (mul_bt s2 fC.b (by omega)) (by simp) (by have := fC.l; omega)
  have m1 : S_multiplied (n + 1) [.lst [.int l.f], pl A] ob = some (.ret true (pl (strip (mulQ [l.f] A))) ob) := m1
  have m3 : S_multiplied (n + 1) [.lst [.int l.d], pl C] ob = some (.ret true (pl (strip (mulQ [l.d] C))) ob) := m3
  have m4 := taken_ok n (strip (mulQ l.q B)) (strip (mulQ [l.d] C)) ob (by have := strip_le (mulQ l.q B); rw [mulQ_len] at this; have := fq.l; have := fB.l; omega) (by have := strip_le (mulQ [l.d] C); rw [mulQ_len] at this; have := fC.l; have h1 : ([l.d] : List Int).length = 1 := rfl; omega)
  unfold holdsB
  by_cases h1 : 0 < l.f
  · have h1' : ¬ l.f ≤ 0 := by omega
    by_cases h2 : 0 < l.d
    · have h2' : ¬ l.d ≤ 0 := by omega
      refine def_rt (s := ⟨[some (false, rw_ row), some (false, .int k), some (false, l.D), some (true, pl (strip (mulQ [l.f] A))), some (true, pl (strip (subL (strip (mulQ l.q B)) (strip (mulQ [l.d] C)))))], ob⟩) ?_ rfl
      refine seq_nx (s1 := ⟨[some (false, rw_ row), some (false, .int k), some (false, l.D), none, none], ob⟩) (by simp [Lk3.D, h1', h2']) ?_
      refine seq_nx (s1 := ⟨[some (false, rw_ row), some (false, .int k), some (false, l.D), some (true, pl (strip (mulQ [l.f] A))), none], ob⟩) (by simp [Lk3.D, eA, m1]) ?_
      refine seq_nx (s1 := ⟨[some (false, rw_ row), some (false, .int k), some (false, l.D), some (true, pl (strip (mulQ [l.f] A))), some (true, pl (strip (subL (strip (mulQ l.q B)) (strip (mulQ [l.d] C)))))], ob⟩) (by simp [-Int.natCast_add, Lk3.D, k1, k2, eB, eC, m2, m3, m4]) ?_
      exact seq_rt (by simp [h1, h2])
    · have h2' : l.d ≤ 0 := by omega
      simp [Lk3.D, h1', h2', h2]
  · have h1' : l.f ≤ 0 := by omega
    simp [Lk3.D, h1', h1]
/-! ### the looker -/
/-- does each link hold, from the k-th on? -/
def allB (row : List (List Int)) : Nat → List Lk3 → Bool
  | _, [] => true
  | k, l :: r => holdsB ((row[k]?).getD []) ((row[k + 1]?).getD []) ((row[k + 2]?).getD []) l && allB row (k + 1) r
structure LkOk (K : Nat) (l : Lk3) : Prop where
  q : Few K l.q
  f : bt K l.f
  d : bt K l.d
theorem links_for (n : Nat) (row : List (List Int)) (K : Nat) (hK : K ≤ 1000000) (hr : ∀ p ∈ row, Few K p) (ob : List OE) (o0 o1 o2 o3 o5 : Option (Bool × D)) : ∀ (ls : List Lk3) (k : Nat) (o6 o7 : Option (Bool × D)), (∀ l ∈ ls, LkOk K l) → k + ls.length + 2 ≤ row.length → ∃ o6' o7',
    forR (fun d s => (match d with
    | .tup l => (setAll [6, 7] l s).bind (evS (tab t.lw (n + 3)) (.seq (.ite (.not (.call 15 (.acons (.var 4) (.acons (.var 6) (.acons (.var 7) (.anil)))))) (.seq (.ret (.con (.bool false)))
    (.nil)) (.nil))
    (.nil)))
    | _ => none)) (((List.range' k ls.length).zip (ls.map Lk3.D)).map fun p => .tup [.int (p.1 : Nat), p.2]) ⟨[o0, o1, o2, o3, some (false, rw_ row), o5, o6, o7], ob⟩ =
     (if allB row k ls = true then some (.nx ⟨[o0, o1, o2, o3, some (false, rw_ row), o5, o6', o7'], ob⟩) else some (.rt false (.bl false) ⟨[o0, o1, o2, o3, some (false, rw_ row), o5, o6', o7'], ob⟩))
  | [], k, o6, o7, _, _ => ⟨o6, o7, by
    show some (Out.nx _) = if true = true then _ else _
    rw [if_pos rfl]⟩
  | l :: r, k, o6, o7, hl, hk => by
    have hk2 : k + (r.length + 1) + 2 ≤ row.length := hk
    have at_ : ∀ i, i < row.length → row[i]? = some ((row[i]?).getD []) := fun i hi => by rw [List.getElem?_eq_getElem hi]; rfl
    have fw : ∀ i, i < row.length → Few K ((row[i]?).getD []) := fun i hi => by
      rw [List.getElem?_eq_getElem hi]
      exact hr _ (List.getElem_mem hi)
    have ll := hl l (List.mem_cons_self ..)
    have e1 := link_ok n row k _ _ _ l ob K hK (at_ k (by omega)) (at_ (k + 1) (by omega)) (at_ (k + 2) (by omega)) (fw k (by omega)) (fw (k + 1) (by omega)) (fw (k + 2) (by omega)) ll.q ll.f ll.d
    have ez : ((List.range' k (l :: r).length).zip ((l :: r).map Lk3.D)).map (fun p : Nat × D => D.tup [.int (p.1 : Nat), p.2]) = .tup [.int k, l.D] :: (((List.range' (k + 1) r.length).zip (r.map Lk3.D)).map fun p => .tup [.int (p.1 : Nat), p.2]) := by
      rw [List.length_cons, List.range'_succ]
      rfl
    by_cases h : holdsB ((row[k]?).getD []) ((row[k + 1]?).getD []) ((row[k + 2]?).getD []) l = true
    · obtain ⟨o6', o7', e2⟩ := links_for n row K hK hr ob o0 o1 o2 o3 o5 r (k + 1) (some (false, .int k)) (some (false, l.D)) (fun x hx => hl x (List.mem_cons_of_mem _ hx)) (by omega)
      refine ⟨o6', o7', ?_⟩
      rw [ez, forR_cons]
      have ea : allB row k (l :: r) = allB row (k + 1) r := by
        show (holdsB _ _ _ l && allB row (k + 1) r) = _
        rw [h, Bool.true_and]
      rw [ea]
      rw [h] at e1
      have step : (setAll [6, 7] [.int k, l.D] ⟨[o0, o1, o2, o3, some (false, rw_ row), o5, o6, o7], ob⟩).bind (evS (tab t.lw (n + 3)) (.seq (.ite (.not (.call 15 (.acons (.var 4) (.acons (.var 6) (.acons (.var 7) (.anil)))))) (.seq (.ret (.con (.bool false)))
        (.nil)) (.nil))
        (.nil))) = some (.nx ⟨[o0, o1, o2, o3, some (false, rw_ row), o5, some (false, .int k), some (false, l.D)], ob⟩) := by simp [e1]
      show thenO ((setAll [6, 7] [.int k, l.D] ⟨[o0, o1, o2, o3, some (false, rw_ row), o5, o6, o7], ob⟩).bind _) _ = _
      rw [step, thenO_nx]
      exact e2
    · have hf : holdsB ((row[k]?).getD []) ((row[k + 1]?).getD []) ((row[k + 2]?).getD []) l = false := by simpa using h
      refine ⟨some (false, .int k), some (false, l.D), ?_⟩
      rw [ez, forR_cons]
      have ea : allB row k (l :: r) = false := by
        show (holdsB _ _ _ l && allB row (k + 1) r) = _
        rw [hf, Bool.false_and]
      rw [ea, if_neg (by decide)]
      rw [hf] at e1
      have step : (setAll [6, 7] [.int k, l.D] ⟨[o0, o1, o2, o3, some (false, rw_ row), o5, o6, o7], ob⟩).bind (evS (tab t.lw (n + 3)) (.seq (.ite (.not (.call 15 (.acons (.var 4) (.acons (.var 6) (.acons (.var 7) (.anil)))))) (.seq (.ret (.con (.bool false)))
        (.nil)) (.nil))
        (.nil))) = some (.rt false (.bl false) ⟨[o0, o1, o2, o3, some (false, rw_ row), o5, some (false, .int k), some (false, l.D)], ob⟩) := by simp [e1]
      show thenO ((setAll [6, 7] [.int k, l.D] ⟨[o0, o1, o2, o3, some (false, rw_ row), o5, o6, o7], ob⟩).bind _) _ = _
      rw [step, thenO_rt]
abbrev ls_ (ls : List Lk3) : D := .lst (ls.map Lk3.D)
/-- what the looker says of a root's paper -/
def joB (P : List Int) (lo hi : En) (row : List (List Int)) (ls : List Lk3) : Bool :=
  decide (2 ≤ row.length) && (decide (ls.length + 2 = row.length) && (decide ((row[0]?).getD [] = P) && (decide ((row[1]?).getD [] = shr (slp P)) && (decide (((row.getLast?).getD []).length = 1) && (allB row 0 ls && (decide (lo.cmp hi < 0) && decide (chE row lo - chE row hi = 1)))))))
theorem just_ok (n : Nat) (P : List Int) (lo hi : En) (row : List (List Int)) (ls : List Lk3) (ob : List OE) (K : Nat) (hK : K ≤ 8000) (fP : Few K P) (nP : Nz P) (hr : ∀ p ∈ row, Few 1000000 p) (hl : ∀ l ∈ ls, LkOk 1000000 l) (hlr : row.length < 10000) (hll : ls.length < 10000) :
    S_just_one (n + 4) [pl P, lo.d, hi.d, .tup [rw_ row, ls_ ls]] ob = some (.ret false (.bl (joB P lo hi row ls)) ob) := by
  rw [E_just_one]
  unfold b_just_one
  have fS : btl 8900 (slp P) := btl_of_ic fun i => by
    rw [ic_slp]
    have h1 : bt 15 ((i : Int) + 1) ∨ ic P (i + 1) = 0 := by
      by_cases c : i + 1 < P.length
      · left
        have := fP.l
        exact bt_of 15 (by omega) (by omega)
      · right
        exact ic_ge (by omega)
    rcases h1 with h1 | h1
    · exact (h1.mul (fP.b.ic (i + 1))).mono (by omega)
    · rw [h1, Int.mul_zero]
      exact bt.zero _
  have e1 := slope_ok (n + 3) P ob (by have := fP.l; omega)
  have e2 := shrunk_ok (n + 2) (slp P) ob (slp_nz nP) fS (by rw [slp_len]; have := fP.l; omega)
  unfold joB
  by_cases c1 : 2 ≤ row.length
  · by_cases c2 : ls.length + 2 = row.length
    · have c1' : ¬ ((row.length : Int) < 2) := by omega
      have c2' : (ls.length : Int) = (row.length : Int) - 2 := by omega
      have r0 : row[0]? = some ((row[0]?).getD []) := by rw [List.getElem?_eq_getElem (by omega)]; rfl
      have r1 : row[1]? = some ((row[1]?).getD []) := by rw [List.getElem?_eq_getElem (by omega)]; rfl
      have a0 : atI (row.map pl) 0 = some (pl ((row[0]?).getD [])) := by
        have := atI_nat (row.map pl) 0
        rw [List.getElem?_map, r0] at this
        exact this
      have a1 : atI (row.map pl) 1 = some (pl ((row[1]?).getD [])) := by
        have := atI_nat (row.map pl) 1
        rw [List.getElem?_map, r1] at this
        exact this
      obtain ⟨lst, hlst⟩ : ∃ lst, row.getLast? = some lst := by
        cases q : row.getLast? with
        | none =>
          have := List.getLast?_eq_none_iff.mp q
          rw [this] at c1
          simp at c1
        | some l => exact ⟨l, rfl⟩
      have al : atI (row.map pl) (-1) = some (pl lst) := by
        rw [atI_last, List.getLast?_map, hlst]
        rfl
      rw [hlst]
      generalize (row[0]?).getD [] = R0 at *
      generalize (row[1]?).getD [] = R1 at *
      have pre : ∀ o, evS (tab t.lw (n + 4)) (.seq (.ite (.or (.cmp .NotEq (.idx (.var 4) (.con (.int 0))) (.var 0)) (.or (.cmp .NotEq (.idx (.var 4) (.con (.int 1))) (.call 17 (.acons (.call 18 (.acons (.var 0) (.anil))) (.anil)))) (.cmp .NotEq (.call 16 (.acons (.idx (.var 4) (.neg (.con (.int 1)))) (.anil))) (.con (.int 0))))) (.seq (.ret (.con (.bool false)))
    (.nil)) (.nil))
    (.seq (.fort [6, 7] (.enm (.var 5)) (.seq (.ite (.not (.call 15 (.acons (.var 4) (.acons (.var 6) (.acons (.var 7) (.anil)))))) (.seq (.ret (.con (.bool false)))
    (.nil)) (.nil))
    (.nil)))
    (.seq (.ret (.and (.cmp .Lt (.meth 14 (.var 1) (.acons (.var 2) (.anil))) (.con (.int 0))) (.cmp .Eq (.call 13 (.acons (.var 4) (.acons (.var 1) (.acons (.var 2) (.anil))))) (.con (.int 1)))))
    (.nil)))) ⟨[some (false, pl P), some (false, lo.d), some (false, hi.d), some (false, .tup [rw_ row, ls_ ls]), some (false, rw_ row), some (false, ls_ ls), none, none], ob⟩ = some o →
        evS (tab t.lw (n + 4)) b_just_one ⟨[pl P, lo.d, hi.d, .tup [rw_ row, ls_ ls]].map (fun d => some (false, d)) ++ List.replicate (8 - 4) none, ob⟩ = some o := fun o h => by
        unfold b_just_one
        refine seq_nx (s1 := ⟨[some (false, pl P), some (false, lo.d), some (false, hi.d), some (false, .tup [rw_ row, ls_ ls]), some (false, rw_ row), none, none, none], ob⟩) (by simp) ?_
        refine seq_nx (s1 := ⟨[some (false, pl P), some (false, lo.d), some (false, hi.d), some (false, .tup [rw_ row, ls_ ls]), some (false, rw_ row), some (false, ls_ ls), none, none], ob⟩) (by simp) ?_
        refine seq_nx (s1 := ⟨[some (false, pl P), some (false, lo.d), some (false, hi.d), some (false, .tup [rw_ row, ls_ ls]), some (false, rw_ row), some (false, ls_ ls), none, none], ob⟩) (by simp [c1', c2']) ?_
        exact h
      have fin : ∀ (b : Bool) (s : Stt), s.ob = ob → evS (tab t.lw (n + 4)) b_just_one ⟨[pl P, lo.d, hi.d, .tup [rw_ row, ls_ ls]].map (fun d => some (false, d)) ++ List.replicate (8 - 4) none, ob⟩ = some (.rt false (.bl b) s) → defSem (tab t.lw (n + 4)) 8 b_just_one [pl P, lo.d, hi.d, .tup [rw_ row, ls_ ls]] ob = some (.ret false (.bl b) ob) := fun b s hs h => def_rt h hs
      show defSem (tab t.lw (n + 4)) 8 b_just_one [pl P, lo.d, hi.d, .tup [rw_ row, ls_ ls]] ob = _
      have st0 : ∀ b : Bool, (some (FR.ret false (.bl b) ob)) = some (FR.ret false (.bl b) ob) := fun _ => rfl
      have hlen : (Option.getD (some lst) []).length = lst.length := rfl
      rw [hlen]
      by_cases c3 : R0 = P
      · by_cases c4 : R1 = shr (slp P)
        · by_cases c5 : lst.length = 1
          · have c5' : (lst.length : Int) - 1 = 0 := by omega
            obtain ⟨o6, o7, e3⟩ := links_for (n + 1) row 1000000 (by omega) hr ob (some (false, pl P)) (some (false, lo.d)) (some (false, hi.d)) (some (false, .tup [rw_ row, ls_ ls])) (some (false, ls_ ls)) ls 0 none none hl (by omega)
            have hen : enumD (ls.map Lk3.D) = ((List.range' 0 ls.length).zip (ls.map Lk3.D)).map fun p => .tup [.int (p.1 : Nat), p.2] := by
              unfold enumD
              rw [List.length_map, List.range_eq_range']
            have h1 : evS (tab t.lw (n + 4)) (.ite (.or (.cmp .NotEq (.idx (.var 4) (.con (.int 0))) (.var 0)) (.or (.cmp .NotEq (.idx (.var 4) (.con (.int 1))) (.call 17 (.acons (.call 18 (.acons (.var 0) (.anil))) (.anil)))) (.cmp .NotEq (.call 16 (.acons (.idx (.var 4) (.neg (.con (.int 1)))) (.anil))) (.con (.int 0))))) (.seq (.ret (.con (.bool false)))
    (.nil)) (.nil)) ⟨[some (false, pl P), some (false, lo.d), some (false, hi.d), some (false, .tup [rw_ row, ls_ ls]), some (false, rw_ row), some (false, ls_ ls), none, none], ob⟩ = some (.nx ⟨[some (false, pl P), some (false, lo.d), some (false, hi.d), some (false, .tup [rw_ row, ls_ ls]), some (false, rw_ row), some (false, ls_ ls), none, none], ob⟩) := by
              simp [a0, a1, al, c3, c4, c5', e1, e2]
            by_cases c6 : allB row 0 ls = true
            · rw [if_pos c6] at e3
              have hK2 : rowOk 1000000 row := fun p hp => ⟨(hr p hp).b, (hr p hp).l⟩
              have e4 := count_ok n row lo hi ob 1000000 (by omega) hK2
              have ec := against_e (n + 2) lo hi ob
              refine fin _ ⟨[some (false, pl P), some (false, lo.d), some (false, hi.d), some (false, .tup [rw_ row, ls_ ls]), some (false, rw_ row), some (false, ls_ ls), o6, o7], ob⟩ rfl (pre _ (seq_nx h1 (seq_nx (s1 := ⟨[some (false, pl P), some (false, lo.d), some (false, hi.d), some (false, .tup [rw_ row, ls_ ls]), some (false, rw_ row), some (false, ls_ ls), o6, o7], ob⟩) ?_ (seq_rt ?_))))
              · simp [hen]
                exact e3
              · by_cases c7 : lo.cmp hi < 0
                · simp [c1, c2, c3, c4, c5, c6, c7, e4]
                · simp [c1, c2, c3, c4, c5, c6, c7, e4]
            · rw [if_neg c6] at e3
              refine fin _ ⟨[some (false, pl P), some (false, lo.d), some (false, hi.d), some (false, .tup [rw_ row, ls_ ls]), some (false, rw_ row), some (false, ls_ ls), o6, o7], ob⟩ rfl (pre _ (seq_nx h1 (seq_rt ?_)))
              simp [hen, c6]
              exact e3
          · have c5' : ¬ ((lst.length : Int) - 1 = 0) := by omega
            refine fin _ ⟨[some (false, pl P), some (false, lo.d), some (false, hi.d), some (false, .tup [rw_ row, ls_ ls]), some (false, rw_ row), some (false, ls_ ls), none, none], ob⟩ rfl (pre _ (seq_rt ?_))
            simp [a0, a1, al, c3, c4, c5', c5, e1, e2]
        · refine fin _ ⟨[some (false, pl P), some (false, lo.d), some (false, hi.d), some (false, .tup [rw_ row, ls_ ls]), some (false, rw_ row), some (false, ls_ ls), none, none], ob⟩ rfl (pre _ (seq_rt ?_))
          simp [a0, a1, al, c3, c4, e1, e2]
      · refine fin _ ⟨[some (false, pl P), some (false, lo.d), some (false, hi.d), some (false, .tup [rw_ row, ls_ ls]), some (false, rw_ row), some (false, ls_ ls), none, none], ob⟩ rfl (pre _ (seq_rt ?_))
        simp [a0, a1, al, c3, e1, e2]
    · have c2' : ¬ ((ls.length : Int) = (row.length : Int) - 2) := by omega
      have c1' : ¬ ((row.length : Int) < 2) := by omega
      simp [c1', c2', c2]
  · have c1' : ((row.length : Int) < 2) := by omega
    simp [c1', c1]
end P87
set_option Elab.async false
set_option linter.all false
set_option maxRecDepth 100000
set_option maxHeartbeats 4000000
/-! what the law's own defs come to: small ones, products, gcds -/
namespace P87
open PySem L2 Ev C87 Pd
/-- whole numbers of at most 63 bits for sure -/
theorem sm_of {x : Int} (B : Int) (h1 : -B ≤ x) (h2 : x ≤ B) (hB : B < 2 ^ 63) : sm x := ⟨by omega, by omega⟩
theorem smK (k : Nat) (h : k < 1000000) : sm (k : Int) := ⟨by omega, by omega⟩
theorem sqn (x : Int) : 0 ≤ x * x := by
  by_cases h : 0 ≤ x
  · exact Int.mul_nonneg h h
  · have := Int.mul_nonneg (show 0 ≤ -x by omega) (show 0 ≤ -x by omega)
    grind
@[simp] theorem norm_ok (n : Nat) (x y z m : Int) (ob : List OE) (hx : sm x) (hy : sm y) (hz : sm z) (hm : sm m) : S__law_norm n [.int x, .int y, .int z, .int m] ob = some (.ret false (.int (Ir86.nr x y z m)) ob) := by
  rw [E__law_norm]
  unfold b__law_norm Ir86.nr
  have h3 : sm 3 := smK 3 (by omega)
  simp [mulR hx, mulR hy, mulR hz, mulR hm]
@[simp] theorem cell_at_ok (n : Nat) (ns : List Int) (k : Nat) (ob : List OE) : S__law_cell_at n [dInts ns, .int k] ob = some (.ret false (.int (ns[k]?.getD 0)) ob) := by
  rw [E__law_cell_at]
  unfold b__law_cell_at dInts
  by_cases h : k < ns.length
  · have e : ns[k]? = some ns[k] := List.getElem?_eq_getElem h
    have e2 : atI (ns.map D.int) (k : Int) = some (.int ns[k]) := by
      rw [atI_nat, List.getElem?_map, e]
      rfl
    simp [h, e2, e]
  · have e : ns[k]? = none := List.getElem?_eq_none (by omega)
    simp [h, e]
@[simp] theorem within_ok (n : Nat) (x : Int) (k : Nat) (ob : List OE) (hk : k < 1000) : S__law_within n [.int x, .int k] ob = some (.ret false (.int (x.fmod (2 * k + 1) - k)) ob) := by
  rw [E__law_within]
  unfold b__law_within
  have h2 : IntMulOk 2 (k : Int) := mulL (smK 2 (by omega))
  have h0 : ¬ (2 * (k : Int) + 1 = 0) := by omega
  simp [h2, h0]
@[simp] theorem sure_ok (n : Nat) (s d : Int) (ob : List OE) (hd : sm d) : S__law_sure n [.int s, .int d] ob = some (.ret false (.int (Qd.sure s d)) ob) := by
  rw [E__law_sure]
  unfold b__law_sure Qd.sure
  by_cases h1 : d < 0
  · simp [h1]
  · by_cases h2 : d * d < s
    · simp [h1, h2, mulL hd]
    · by_cases h3 : s < d * d
      · simp [h1, h2, h3, mulL hd]
      · simp [h1, h2, h3, mulL hd]
/-! ### products of polynomials -/
def addAt (c : Int) : Nat → List Int → List Int → List Int
  | _, [], r => r
  | j, x :: xs, r => addAt c (j + 1) xs (r.set j ((r[j]?).getD 0 + c * x))
def mulLoop (q : List Int) : Nat → List Int → List Int → List Int
  | _, [], r => r
  | i, c :: cs, r => mulLoop q (i + 1) cs (addAt c i q r)
def mulP (p q : List Int) : List Int := if p = [] ∨ q = [] then [] else mulLoop q 0 p (List.replicate (p.length + q.length - 1) 0)
theorem addAt_eq (c : Int) : ∀ (xs : List Int) (j : Nat) (r : List Int), addAt c j xs r = adA c xs j r
  | [], _, _ => rfl
  | x :: xs, j, r => by
    show addAt c (j + 1) xs (r.set j ((r[j]?).getD 0 + c * x)) = subAt (-c) (j + 1) xs (r.set j ((r[j]?).getD 0 - -c * x))
    rw [addAt_eq c xs, show (r[j]?).getD 0 - -c * x = (r[j]?).getD 0 + c * x by grind]
    rfl
theorem mulLoop_eq (q : List Int) : ∀ (cs : List Int) (i : Nat) (r : List Int), mulLoop q i cs r = muL q i cs r
  | [], _, _ => rfl
  | c :: cs, i, r => by
    show mulLoop q (i + 1) cs (addAt c i q r) = muL q (i + 1) cs (adA c q i r)
    rw [addAt_eq, mulLoop_eq q cs]
theorem addAt_len (c : Int) : ∀ (xs : List Int) (j : Nat) (r : List Int), (addAt c j xs r).length = r.length
  | [], _, _ => rfl
  | x :: xs, j, r => by
    unfold addAt
    rw [addAt_len c xs]
    simp
abbrev stM (P Q : List Int) (r : List Int) (o4 o5 o6 o7 : Option (Bool × D)) (ob : List OE) : Stt :=
  ⟨[some (false, pl P), some (false, pl Q), some (true, pl r), none, o4, o5, o6, o7], ob⟩
def enF (i : Nat) (cs : List Int) : List D := ((List.range' i cs.length).zip (intl cs)).map fun p => .tup [.int (p.1 : Nat), p.2]
theorem enF_cons (i : Nat) (c : Int) (cs : List Int) : enF i (c :: cs) = .tup [.int i, .int c] :: enF (i + 1) cs := by
  unfold enF
  rw [List.length_cons, List.range'_succ]
  rfl
theorem enum_enF (Q : List Int) : enumD (intl Q) = enF 0 Q := by
  unfold enumD enF
  rw [len_intl, List.range_eq_range']
theorem mul_inner (G : Tab) (P Q : List Int) (i : Nat) (c : Int) (hc : sm c) (ob : List OE) : ∀ (cs : List Int) (j : Nat) (r : List Int) (o6 o7 : Option (Bool × D)), i + j + cs.length ≤ r.length → ∃ o6' o7',
    forR (fun d s => (match d with
    | .tup l => (setAll [6, 7] l s).bind (evS G (.seq (.sub 2 (.bin .Add (.var 4) (.var 6)) (.bin .Add (.idx (.var 2) (.bin .Add (.var 4) (.var 6))) (.bin .Mult (.var 5) (.var 7))))
    (.nil)))
    | _ => none)) (enF j cs) (stM P Q r (some (false, .int i)) (some (false, .int c)) o6 o7 ob) =
     some (.nx (stM P Q (addAt c (i + j) cs r) (some (false, .int i)) (some (false, .int c)) o6' o7' ob))
  | [], j, r, o6, o7, _ => ⟨o6, o7, rfl⟩
  | x :: cs, j, r, o6, o7, hl => by
    have hl2 : i + j + (cs.length + 1) ≤ r.length := hl
    obtain ⟨o6', o7', e⟩ := mul_inner G P Q i c hc ob cs (j + 1) (r.set (i + j) ((r[i + j]?).getD 0 + c * x)) (some (false, .int j)) (some (false, .int x)) (by simp; omega)
    refine ⟨o6', o7', ?_⟩
    rw [enF_cons, forR_cons]
    have hk : (i : Int) + j = ((i + j : Nat) : Int) := by omega
    have hr : r[i + j]? = some r[i + j] := List.getElem?_eq_getElem (by omega)
    have hx : i + j < r.length := by omega
    have step : (setAll [6, 7] [.int j, .int x] (stM P Q r (some (false, .int i)) (some (false, .int c)) o6 o7 ob)).bind (evS G (.seq (.sub 2 (.bin .Add (.var 4) (.var 6)) (.bin .Add (.idx (.var 2) (.bin .Add (.var 4) (.var 6))) (.bin .Mult (.var 5) (.var 7))))
      (.nil))) = some (.nx (stM P Q (r.set (i + j) ((r[i + j]?).getD 0 + c * x)) (some (false, .int i)) (some (false, .int c)) (some (false, .int j)) (some (false, .int x)) ob)) := by
      simp [-Int.natCast_add, hk, atI_nat, get_intl, hr, mulL hc, len_intl, ixN_nat hx, set_intl]
    show thenO ((setAll [6, 7] [.int j, .int x] (stM P Q r (some (false, .int i)) (some (false, .int c)) o6 o7 ob)).bind _) _ = _
    rw [step, thenO_nx]
    exact e
theorem mul_outer (G : Tab) (P Q : List Int) (ob : List OE) : ∀ (cs : List Int) (i : Nat) (r : List Int) (o4 o5 o6 o7 : Option (Bool × D)), sml cs → i + cs.length + Q.length ≤ r.length + 1 → ∃ o4' o5' o6' o7',
    forR (fun d s => (match d with
    | .tup l => (setAll [4, 5] l s).bind (evS G (.seq (.fort [6, 7] (.enm (.var 1)) (.seq (.sub 2 (.bin .Add (.var 4) (.var 6)) (.bin .Add (.idx (.var 2) (.bin .Add (.var 4) (.var 6))) (.bin .Mult (.var 5) (.var 7))))
    (.nil)))
    (.nil)))
    | _ => none)) (enF i cs) (stM P Q r o4 o5 o6 o7 ob) = some (.nx (stM P Q (mulLoop Q i cs r) o4' o5' o6' o7' ob))
  | [], i, r, o4, o5, o6, o7, _, _ => ⟨o4, o5, o6, o7, rfl⟩
  | c :: cs, i, r, o4, o5, o6, o7, h, hl => by
    have hl2 : i + (cs.length + 1) + Q.length ≤ r.length + 1 := hl
    obtain ⟨o6', o7', e1⟩ := mul_inner G P Q i c (h c (List.mem_cons_self ..)) ob Q 0 r o6 o7 (by omega)
    obtain ⟨a4, a5, a6, a7, e2⟩ := mul_outer G P Q ob cs (i + 1) (addAt c i Q r) (some (false, .int i)) (some (false, .int c)) o6' o7' (fun x hx => h x (List.mem_cons_of_mem _ hx)) (by rw [addAt_len]; omega)
    refine ⟨a4, a5, a6, a7, ?_⟩
    rw [enF_cons, forR_cons]
    have step : (setAll [4, 5] [.int i, .int c] (stM P Q r o4 o5 o6 o7 ob)).bind (evS G (.seq (.fort [6, 7] (.enm (.var 1)) (.seq (.sub 2 (.bin .Add (.var 4) (.var 6)) (.bin .Add (.idx (.var 2) (.bin .Add (.var 4) (.var 6))) (.bin .Mult (.var 5) (.var 7))))
      (.nil)))
      (.nil))) = some (.nx (stM P Q (addAt c i Q r) (some (false, .int i)) (some (false, .int c)) o6' o7' ob)) := by
      simp [enum_enF]
      exact Eq.trans (congrArg (fun z => thenO z (evS G .nil)) e1) rfl
    show thenO ((setAll [4, 5] [.int i, .int c] (stM P Q r o4 o5 o6 o7 ob)).bind _) _ = _
    rw [step, thenO_nx]
    exact e2
@[simp] theorem mul_ok (n : Nat) (p q : List Int) (ob : List OE) (hp : sml p) (h1 : p.length < 1000) (h2 : q.length < 1000) : S__law_mul n [pl p, pl q] ob = some (.ret true (pl (mulP p q)) ob) := by
  rw [E__law_mul]
  unfold b__law_mul mulP
  by_cases hpn : p = []
  · subst hpn
    simp [intl]
  · by_cases hqn : q = []
    · subst hqn
      simp [intl]
    · rw [if_neg (by simp [hpn, hqn])]
      have l1 : p.length ≠ 0 := by simpa using hpn
      have l2 : q.length ≠ 0 := by simpa using hqn
      obtain ⟨m, hm⟩ : ∃ m, p.length + q.length - 1 = m := ⟨_, rfl⟩
      have hG : (p.length : Int) + q.length - 1 = (m : Int) := by omega
      have hok : rng1D (.int (m : Int)) = some (intl (rngI 0 (m : Int))) := rng1_nat (by omega)
      rw [hm]
      have hc : compR 3 (ev (tab t.lw n) (.con (.int 0))).E none (intl (rngI 0 (m : Int))) [] ⟨[some (false, pl p), some (false, pl q), none, none, none, none, none, none], ob⟩ = some (.ok (intl (List.replicate m 0)) ⟨[some (false, pl p), some (false, pl q), none, none, none, none, none, none], ob⟩) := by
        rw [compR_int (fun x => .int 0) rfl (fun x hx => ⟨false, by simp⟩) (by rw [rng0_len]; simp; omega)]
        simp only [List.nil_append, List.map_const', rng0_len]
        simp [intl]
      obtain ⟨o4, o5, o6, o7, e⟩ := mul_outer (tab t.lw n) p q ob p 0 (List.replicate m 0) none none none none hp (by simp; omega)
      refine def_rt (s := ⟨[some (false, pl p), some (false, pl q), none, none, o4, o5, o6, o7], ob⟩) ?_ rfl
      refine seq_nx (s1 := ⟨[some (false, pl p), some (false, pl q), none, none, none, none, none, none], ob⟩) (by simp [len_intl, l1, l2, hpn, hqn]) ?_
      refine seq_nx (s1 := stM p q (List.replicate m 0) none none none none ob) (by simp [len_intl, hG, hok, hc]) ?_
      refine seq_nx (s1 := stM p q (mulLoop q 0 p (List.replicate m 0)) o4 o5 o6 o7 ob) (by
        simp [enum_enF]
        exact e) ?_
      exact seq_rt (by simp)
theorem mulP_eq {p q : List Int} (hp : p ≠ []) (hq : q ≠ []) : mulP p q = muL q 0 p (List.replicate (p.length + q.length - 1) 0) := by
  unfold mulP
  rw [if_neg (fun z => z.elim hp hq), mulLoop_eq]
theorem mulP_len {p q : List Int} (hp : p ≠ []) (hq : q ≠ []) : (mulP p q).length = p.length + q.length - 1 := by
  rw [mulP_eq hp hq, muL_len]
  simp
open Rl in
theorem ipv_mulP (p q : List Int) (x : R) : ipv (mulP p q) x = ipv p x * ipv q x := by
  by_cases hp : p = []
  · subst hp
    show (0 : R) = 0 * _
    grind
  · by_cases hq : q = []
    · subst hq
      have : mulP p [] = [] := by
        unfold mulP
        exact if_pos (.inr rfl)
      rw [this]
      show (0 : R) = _ * 0
      grind
    · rw [mulP_eq hp hq, ipv_muL _ _ _ _ _ (by have := List.length_pos_iff.mpr hp; simp; omega), ipv_rep0]
      grind
/-- bits of a product -/
theorem muL_bt {j k : Nat} {q : List Int} (hq : btl k q) : ∀ (cs : List Int) (i n : Nat) (r : List Int), btl j cs → (∀ a, i + cs.length + q.length ≤ a + 1 → True) → i + cs.length + q.length ≤ r.length + 1 → btl (j + k + n) r → btl (j + k + n + cs.length) (muL q i cs r)
  | [], i, n, r, _, _, _, hr => hr
  | c :: cs, i, n, r, hc, _, hl, hr => by
    have hl2 : i + (cs.length + 1) + q.length ≤ r.length + 1 := hl
    have h1 : btl (j + k + (n + 1)) (adA c q i r) := btl_of_ic fun a => by
      unfold adA
      rw [ic_subAt _ _ _ _ _ (by omega)]
      have e : ic r a - -c * (if i ≤ a then ic q (a - i) else 0) = ic r a + c * (if i ≤ a then ic q (a - i) else 0) := by grind
      rw [e]
      have hm : bt (j + k) (c * (if i ≤ a then ic q (a - i) else 0)) := by
        split
        · exact (hc c (List.mem_cons_self ..)).mul (hq.ic _)
        · rw [Int.mul_zero]
          exact bt.zero _
      exact (hr.ic a).add (hm.mono (by omega))
    have := muL_bt hq cs (i + 1) (n + 1) (adA c q i r) (fun x hx => hc x (List.mem_cons_of_mem _ hx)) (fun _ _ => trivial) (by rw [adA_len]; omega) h1
    show btl (j + k + n + (cs.length + 1)) (muL q (i + 1) cs (adA c q i r))
    exact this.mono (by omega)
theorem mulP_bt {j k : Nat} {p q : List Int} (hp : btl j p) (hq : btl k q) : btl (j + k + p.length) (mulP p q) := by
  by_cases h1 : p = []
  · subst h1
    intro x hx
    simp [mulP] at hx
  · by_cases h2 : q = []
    · subst h2
      intro x hx
      simp [mulP] at hx
    · rw [mulP_eq h1 h2]
      have := muL_bt (j := j) hq p 0 0 (List.replicate (p.length + q.length - 1) 0) hp (fun _ _ => trivial) (by have := List.length_pos_iff.mpr h1; simp; omega) (fun x hx => by
        rw [(List.mem_replicate.mp hx).2]
        exact bt.zero _)
      exact this
theorem bt_sm {k : Nat} {x : Int} (h : bt k x) (hk : k ≤ 62) : sm x := by
  have := bt_le (h.mono hk)
  exact ⟨by omega, by omega⟩
theorem btl_sml {k : Nat} {p : List Int} (h : btl k p) (hk : k ≤ 62) : sml p := fun x hx => bt_sm (h x hx) hk
theorem btl_of {p : List Int} (k : Nat) (h : ∀ x ∈ p, -(2 ^ k) < x ∧ x < 2 ^ k) : btl k p := fun x hx => bt_of k (h x hx).1 (h x hx).2
/-! ### trims -/
theorem gcd_loop (G : Tab) (ob : List OE) : ∀ (k : Nat) (a b : Int) (r : Option (Bool × D)), 0 ≤ a → 0 ≤ b → b.natAbs ≤ k → ∃ r',
   whl ((ev G (.cmp .Gt (.var 1) (.con (.int 0)))).T) (evS G (.seq (.asg 2 (.bin .Mod (.var 0) (.var 1)))
    (.seq (.asg 0 (.var 1))
    (.seq (.asg 1 (.var 2))
    (.nil))))) ⟨[some (false, .int a), some (false, .int b), r], ob⟩ = some (.nx ⟨[some (false, .int (Int.gcd a b)), some (false, .int 0), r'], ob⟩) := by
  intro k
  induction k with
  | zero =>
    intro a b r ha hb h
    have : b = 0 := by omega
    subst this
    refine ⟨r, ?_⟩
    have e : ((Int.gcd a 0 : Nat) : Int) = a := by simp; omega
    rw [e]
    exact whl_end (by simp)
  | succ k ih =>
    intro a b r ha hb h
    by_cases ho : b = 0
    · subst ho
      refine ⟨r, ?_⟩
      have e : ((Int.gcd a 0 : Nat) : Int) = a := by simp; omega
      rw [e]
      exact whl_end (by simp)
    · have hp : 0 < b := by omega
      have h1 := Int.fmod_lt_of_pos a hp
      have h2 := Int.fmod_nonneg_of_pos a hp
      obtain ⟨r', e⟩ := ih b (a.fmod b) (some (false, .int (a.fmod b))) hb h2 (by omega)
      refine ⟨r', ?_⟩
      rw [fmod_gcd] at e
      exact whl_turn (s1 := ⟨[some (false, .int a), some (false, .int b), r], ob⟩) (by simp [hp]) (by simp [ho]) e
@[simp] theorem gcd_ok (n : Nat) (a b : Int) (ob : List OE) : S__law_gcd n [.int a, .int b] ob = some (.ret false (.int (Int.gcd a b)) ob) := by
  rw [E__law_gcd]
  unfold b__law_gcd
  obtain ⟨r, e⟩ := gcd_loop (tab t.lw n) ob b.natAbs (aint a) (aint b) none (by unfold aint; split <;> omega) (by unfold aint; split <;> omega) (by unfold aint; split <;> omega)
  have eg : Int.gcd (aint a) (aint b) = Int.gcd a b := by
    have h : ∀ x : Int, (aint x).natAbs = x.natAbs := fun x => by unfold aint; split <;> omega
    rw [Int.gcd_eq_natAbs_gcd_natAbs, h, h, ← Int.gcd_eq_natAbs_gcd_natAbs]
  rw [eg] at e
  unfold aint at e
  simp [s_whl, e]
theorem gl_loop (n : Nat) (q : D) (ob : List OE) : ∀ (p : List Int) (g : Nat) (o : Option (Bool × D)), ∃ o',
    forR (fun d s => (setD 2 (false, d) s).bind (evS (tab t.lw (n + 1)) (.seq (.asg 1 (.call 19 (.acons (.var 1) (.acons (.var 2) (.anil)))))
    (.nil)))) (intl p) ⟨[some (false, q), some (false, .int g), o], ob⟩ = some (.nx ⟨[some (false, q), some (false, .int (gcf g p)), o'], ob⟩)
  | [], g, o => ⟨o, rfl⟩
  | x :: r, g, o => by
    obtain ⟨o', e⟩ := gl_loop n q ob r (Int.gcd g x) (some (false, .int x))
    refine ⟨o', ?_⟩
    have e1 : intl (x :: r) = .int x :: intl r := rfl
    rw [e1, forR_cons]
    have step : (setD 2 (false, .int x) ⟨[some (false, q), some (false, .int g), o], ob⟩).bind (evS (tab t.lw (n + 1)) (.seq (.asg 1 (.call 19 (.acons (.var 1) (.acons (.var 2) (.anil)))))
      (.nil))) = some (.nx ⟨[some (false, q), some (false, .int (Int.gcd g x)), some (false, .int x)], ob⟩) := by simp
    rw [step, thenO_nx]
    exact e
@[simp] theorem lshared_ok (n : Nat) (p : List Int) (ob : List OE) : S__law_shared (n + 1) [pl p] ob = some (.ret false (.int (gc p)) ob) := by
  rw [E__law_shared]
  unfold b__law_shared
  obtain ⟨o, e⟩ := gl_loop n (pl p) ob p 0 none
  unfold gc
  refine def_rt (s := ⟨[some (false, pl p), none, o], ob⟩) ?_ rfl
  refine seq_nx (s1 := ⟨[some (false, pl p), some (false, .int 0), none], ob⟩) (by simp) ?_
  refine seq_nx (s1 := ⟨[some (false, pl p), some (false, .int (gcf 0 p)), o], ob⟩) (by simp; exact e) ?_
  exact seq_rt (by simp)
theorem lshrunk_ok (n : Nat) (p : List Int) (ob : List OE) (hn : Nz p) (hb : btl 8900 p) (hl : p.length < 1000000) : S__law_shrunk (n + 1) [pl p] ob = some (.ret true (pl (shr p)) ob) := by
  rw [E__law_shrunk]
  unfold b__law_shrunk
  obtain ⟨o, e⟩ := gl_loop n (pl p) ob p 0 none
  by_cases hp : p = []
  · subst hp
    simp [shr, intl]
  · have g0 : ((gc p : Nat) : Int) ≠ 0 := by have := gc_pos hn hp; omega
    have gd : ∀ x, Builtin.divisionGoesByPylong x (gc p : Int) = false := fun x => bt.divOk (gc_bt hn hp hb)
    have g1 : ¬ gc p = 0 := by omega
    have hc : compR 2 (ev (tab t.lw (n + 1)) (.bin .FloorDiv (.var 2) (.var 1))).E none (intl p) [] ⟨[some (false, pl p), some (false, .int (gc p)), none], ob⟩ = some (.ok (intl (shr p)) ⟨[some (false, pl p), some (false, .int (gc p)), none], ob⟩) := by
      rw [compR_int (fun x => .int (x.fdiv (gc p))) rfl (fun x hx => ⟨false, by simp [g0, g1, gd]⟩) (by simp; omega)]
      simp [intl, shr]
    refine def_rt (s := ⟨[some (false, pl p), some (false, .int (gc p)), none], ob⟩) ?_ rfl
    refine seq_nx (s1 := ⟨[some (false, pl p), some (false, .int 0), none], ob⟩) (by simp) ?_
    refine seq_nx (s1 := ⟨[some (false, pl p), some (false, .int (gc p)), o], ob⟩) (by simp; exact e) ?_
    refine seq_nx (s1 := ⟨[some (false, pl p), some (false, .int (gc p)), o], ob⟩) (by simp [g1]) ?_
    exact seq_rt (by simp [hc])
theorem lplain_ok (n : Nat) (p : List Int) (ob : List OE) (hn : Nz p) (hb : btl 8900 p) (hl : p.length < 1000000) {l : Int} (hL : (shr p).getLast? = some l) (h0 : 0 ≤ l) : S__law_plain (n + 2) [pl p] ob = some (.ret true (pl (shr p)) ob) := by
  rw [E__law_plain]
  unfold b__law_plain
  have e := lshrunk_ok n p ob hn hb hl
  have hli : atI (intl (shr p)) (-1) = some (.int l) := by
    rw [atI_last, show intl (shr p) = (shr p).map .int from rfl, List.getLast?_map, hL]
    rfl
  have hneg : ¬ l < 0 := by omega
  by_cases hz : (shr p).length = 0
  · simp [e, len_intl, hz]
  · have : 0 < (shr p).length := by omega
    simp [e, len_intl, hli, hneg, this]
theorem trim_loop (G : Tab) (p : List Int) (ob : List OE) : ∀ k : Nat, k ≤ p.length →
    whl ((ev G (.and (.cmp .Gt (.var 1) (.con (.int 0))) (.cmp .Eq (.idx (.var 0) (.bin .Sub (.var 1) (.con (.int 1)))) (.con (.int 0))))).T) (evS G (.seq (.asg 1 (.bin .Sub (.var 1) (.con (.int 1))))
    (.nil))) ⟨[some (false, pl p), some (false, .int k)], ob⟩ = some (.nx ⟨[some (false, pl p), some (false, .int (sz p k))], ob⟩) := fun k hk => poly_loop G p ob k hk
@[simp] theorem trim_ok (n : Nat) (p : List Int) (ob : List OE) : S__law_trim n [pl p] ob = some (.ret true (pl (strip p)) ob) := by
  rw [E__law_trim]
  unfold b__law_trim
  have h := trim_loop (tab t.lw n) p ob p.length (Nat.le_refl _)
  have hs := sz_le p p.length
  simp [s_whl, len_intl, h, cut, HT.sIx_none, HT.sIx_nat, strip, intl_take, Nat.min_eq_left hs]
end P87
set_option Elab.async false
set_option linter.all false
set_option maxRecDepth 100000
set_option maxHeartbeats 4000000
/-! the law's factors: drawn, their shapes, products, roots; its cubes -/
namespace P87
open PySem L2 Ev C87 Pd Qd
abbrev f3 (a b c : Int) : D := .tup [.int a, .int b, .int c]
def fd (f : Fac) : D := f3 f.u f.e f.b
theorem fmod_rng (x : Int) {m : Int} (h : 0 < m) : 0 ≤ x.fmod m ∧ x.fmod m < m := ⟨Int.fmod_nonneg_of_pos x h, Int.fmod_lt_of_pos x h⟩
/-- between two neighbouring squares -/
theorem nsq_of {n r : Int} (hn : 1 ≤ n) (h0 : 0 ≤ r) (h1 : r < 2 * n) : Nsq (n * n + 1 + r) := fun x z => by
  have key : ∀ y : Int, 0 ≤ y → y * y = n * n + 1 + r → False := fun y hy z => by
    by_cases c : y ≤ n
    · have p1 := Int.mul_nonneg (show 0 ≤ n - y by omega) (show 0 ≤ n + y by omega)
      grind
    · have p1 := Int.mul_nonneg (show 0 ≤ y - (n + 1) by omega) (show 0 ≤ y + (n + 1) by omega)
      grind
  by_cases c : 0 ≤ x
  · exact key x c z
  · exact key (-x) (by omega) (by grind)
theorem nsq_neg {e : Int} (h : e < 0) : Nsq e := fun x z => by
  have := sqn x
  omega
theorem factor_by_ok (n : Nat) (x : Int) (ob : List OE) : ∃ f : Fac, f.ok ∧ S__law_factor_by n [.int x, .int 11] ob = some (.ret false (fd f) ob) := by
  rw [E__law_factor_by]
  unfold b__law_factor_by
  have m1 : IntMulOk x 48271 := mulR (smK 48271 (by omega))
  have m2 : IntMulOk x 69621 := mulR (smK 69621 (by omega))
  have m3 : IntMulOk x 16807 := mulR (smK 16807 (by omega))
  have m4 : IntMulOk 2 11 := mulL (smK 2 (by omega))
  have d4 : Builtin.divisionGoesByPylong x 4 = false := divOk (smK 4 (by omega))
  have hu := fmod_rng (x.fdiv 4) (m := 23) (by omega)
  have hb := fmod_rng ((x * 48271).fmod 10007) (m := 3) (by omega)
  have hn := fmod_rng ((x * 69621).fmod 10009) (m := 5) (by omega)
  obtain ⟨nn, hnn⟩ : ∃ nn, 1 + ((x * 69621).fmod 10009).fmod 5 = nn := ⟨_, rfl⟩
  have n1 : 1 ≤ nn ∧ nn ≤ 5 := by omega
  have hr := fmod_rng ((x * 16807).fmod 10037) (m := 2 * nn) (by omega)
  have m5 : IntMulOk nn nn := mulL (sm_of 5 (by omega) (by omega) (by omega))
  have m6 : IntMulOk 2 nn := mulL (smK 2 (by omega))
  have q0 : ¬ (2 * nn = 0) := by omega
  have qq0 : ¬ nn = 0 := by omega
  have c23 : (2 * 11 + 1 : Int) = 23 := rfl
  have sqb : nn * nn ≤ 25 := by
    have p1 := Int.mul_nonneg (show 0 ≤ 5 - nn by omega) (show 0 ≤ 5 + nn by omega)
    grind
  have sq0 := sqn nn
  have ns := nsq_of n1.1 hr.1 hr.2
  by_cases h2 : x.fmod 4 = 2
  · refine ⟨⟨(x.fdiv 4).fmod 23 - 11, nn * nn + 1 + ((x * 16807).fmod 10037).fmod (2 * nn), 1 + ((x * 48271).fmod 10007).fmod 3⟩, ⟨by simp; omega, by simp; omega, by simp; omega, by simp; omega, by simp; omega, by simp; omega, fun _ => ns⟩, ?_⟩
    simp [m1, m2, m3, m4, d4, hnn, m5, m6, q0, qq0, h2, fd]
  · by_cases h3 : x.fmod 4 = 3
    · refine ⟨⟨(x.fdiv 4).fmod 23 - 11, -(nn * nn + 1 + ((x * 16807).fmod 10037).fmod (2 * nn)), 1 + ((x * 48271).fmod 10007).fmod 3⟩, ⟨by simp; omega, by simp; omega, by simp; omega, by simp; omega, by simp; omega, by simp; omega, fun _ => nsq_neg (by simp; omega)⟩, ?_⟩
      simp [m1, m2, m3, m4, d4, hnn, m5, m6, q0, qq0, h2, h3, fd]
    · refine ⟨⟨(x.fdiv 4).fmod 23 - 11, 0, 1 + ((x * 48271).fmod 10007).fmod 3⟩, ⟨by simp; omega, by simp; omega, by simp; omega, by simp; omega, by simp, by simp, fun z => absurd rfl z⟩, ?_⟩
      simp [m1, m2, m3, m4, d4, hnn, m5, m6, q0, qq0, h2, h3, fd]
/-! ### shapes -/
theorem fac_bt {f : Fac} (h : f.ok) : btl 8 f.p := by
  obtain ⟨u1, u2, b1, b2, e1, e2, _⟩ := h
  have uu := ab2i u1 u2 u1 u2
  have sq := sqn f.u
  have bb := ab2i (show -3 ≤ f.b by omega) b2 (show -3 ≤ f.b by omega) b2
  have bu := ab2i (show -3 ≤ f.b by omega) b2 u1 u2
  have e : -2 * f.b * f.u = -2 * (f.b * f.u) := by grind
  unfold Fac.p
  split
  · exact btl_of 8 (by simp; omega)
  · rw [e]
    exact btl_of 8 (by simp; omega)
theorem fac_last {f : Fac} (h : f.ok) : ∃ l, f.s.getLast? = some l ∧ 0 < l := by
  obtain ⟨n1, n2⟩ := fac_nz h
  obtain ⟨l, hl, l0⟩ := nz_last (shr_nz n1 n2) (fun z => n2 (List.eq_nil_of_length_eq_zero (by rw [← shr_len f.p, z]; rfl)))
  refine ⟨l, hl, ?_⟩
  obtain ⟨d, hd, hdl⟩ := last_ic hl
  have e := shr_ic n1 n2 d
  rw [hdl] at e
  have g := gc_pos n1 n2
  have hb := h.b1
  have bb := Int.mul_pos (show 0 < f.b by omega) (show 0 < f.b by omega)
  rw [shr_len] at hd
  have pos : 0 < ic f.p d := by
    unfold Fac.p at hd ⊢
    split at hd
    · rename_i z
      rw [if_pos z]
      have : d = 1 := by simp at hd; omega
      subst this
      show 0 < f.b
      omega
    · rename_i z
      rw [if_neg z]
      have : d = 2 := by simp at hd; omega
      subst this
      exact bb
  by_cases c : 0 < l
  · exact c
  · have := Int.mul_nonneg (show (0 : Int) ≤ gc f.p by omega) (show 0 ≤ -l by omega)
    grind
theorem fac_slen (f : Fac) : 2 ≤ f.s.length ∧ f.s.length ≤ 3 := by
  unfold Fac.s
  rw [shr_len]
  unfold Fac.p
  split <;> simp
@[simp] theorem shape_ok (n : Nat) (f : Fac) (h : f.ok) (ob : List OE) : S__law_shape (n + 3) [fd f] ob = some (.ret true (pl f.s) ob) := by
  rw [E__law_shape]
  unfold b__law_shape fd
  obtain ⟨n1, n2⟩ := fac_nz h
  obtain ⟨l, hl, l0⟩ := fac_last h
  have hlen : f.p.length < 1000000 := by
    unfold Fac.p
    split <;> simp
  have e := lplain_ok n f.p ob n1 ((fac_bt h).mono (by omega)) hlen hl (by omega)
  have hs : shr f.p = f.s := rfl
  rw [hs] at e
  generalize f.s = S at *
  unfold Fac.p at e
  obtain ⟨u, ee, b⟩ := f
  have m1 : IntMulOk u u := mulL (sm_of 11 h.u1 h.u2 (by omega))
  have m2 : IntMulOk (-2) b := mulR (sm_of 3 (by have := h.b1; simp at this ⊢; omega) h.b2 (by omega))
  have m3 : IntMulOk (-2 * b) u := mulR (sm_of 11 h.u1 h.u2 (by omega))
  have m4 : IntMulOk b b := mulL (sm_of 3 (by have := h.b1; simp at this ⊢; omega) h.b2 (by omega))
  by_cases z : ee = 0
  · subst z
    have e : S__law_plain (n + 2) [.lst [.int (-u), .int b]] ob = some (.ret true (pl S) ob) := e
    simp [e]
  · simp only [if_neg z] at e
    have e : S__law_plain (n + 2) [.lst [.int (u * u - ee), .int (-2 * b * u), .int (b * b)]] ob = some (.ret true (pl S) ob) := e
    simp [e, z, m1, m2, m3, m4]
/-! ### the factors drawn -/
def dsum : List Fac → Int
  | [] => 0
  | f :: r => (f.s.length : Int) - 1 + dsum r
theorem dsum_app (f : Fac) : ∀ fs, dsum (fs ++ [f]) = dsum fs + ((f.s.length : Int) - 1)
  | [] => by simp [dsum]
  | g :: r => by
    show (g.s.length : Int) - 1 + dsum (r ++ [f]) = (g.s.length : Int) - 1 + dsum r + _
    rw [dsum_app f r]
    omega
structure FIn (fs : List Fac) (room : Int) : Prop where
  ok : ∀ f ∈ fs, f.ok
  ne : fs.Pairwise fun f g => f.s ≠ g.s
  sum : room + dsum fs = 2
  nn : 0 ≤ room
theorem dsum_ge : ∀ fs : List Fac, (fs.length : Int) ≤ dsum fs
  | [] => by simp [dsum]
  | f :: r => by
    have := dsum_ge r
    have := fac_slen f
    show ((r.length + 1 : Nat) : Int) ≤ (f.s.length : Int) - 1 + dsum r
    omega
theorem factors_for (n : Nat) (q : D) (ob : List OE) : ∀ (l : List Int) (fs : List Fac) (room : Int) (o5 o6 o7 : Option (Bool × D)), FIn fs room → ∃ fs' room' o5' o6' o7', FIn fs' room' ∧
    forR (fun d s => (setD 5 (false, d) s).bind (evS (tab t.lw (n + 4)) (.seq (.asg 6 (.call 23 (.acons (.var 5) (.acons (.var 1) (.anil)))))
    (.seq (.asg 7 (.call 22 (.acons (.var 6) (.anil))))
    (.seq (.ite (.and (.cmp .NotIn (.var 7) (.var 4)) (.cmp .LtE (.bin .Sub (.b1 .len (.var 7)) (.con (.int 1))) (.var 2))) (.seq (.ex (.app 3 (.var 6)))
    (.seq (.ex (.app 4 (.var 7)))
    (.seq (.asg 2 (.bin .Add (.bin .Sub (.var 2) (.b1 .len (.var 7))) (.con (.int 1))))
    (.nil)))) (.nil))
    (.nil)))))) (intl l) ⟨[some (false, q), some (false, .int 11), some (false, .int room), some (true, .lst (fs.map fd)), some (true, .lst (fs.map fun f => pl f.s)), o5, o6, o7], ob⟩ =
      some (.nx ⟨[some (false, q), some (false, .int 11), some (false, .int room'), some (true, .lst (fs'.map fd)), some (true, .lst (fs'.map fun f => pl f.s)), o5', o6', o7'], ob⟩)
  | [], fs, room, o5, o6, o7, h => ⟨fs, room, o5, o6, o7, h, rfl⟩
  | x :: r, fs, room, o5, o6, o7, h => by
    obtain ⟨f, hf, e1⟩ := factor_by_ok (n + 3) x ob
    have e2 := shape_ok n f hf ob
    have ei : intl (x :: r) = .int x :: intl r := rfl
    have hin : inL (pl f.s) (fs.map fun f => pl f.s) = some (decide (f.s ∈ fs.map Fac.s)) := by
      have := inL_pls f.s (fs.map Fac.s)
      rw [List.map_map] at this
      exact this
    have hl : fs.length < 16777216 := by
      have := dsum_ge fs
      have := h.sum
      have := h.nn
      omega
    by_cases c1 : f.s ∈ fs.map Fac.s
    · obtain ⟨fs', room', a5, a6, a7, h', e⟩ := factors_for n q ob r fs room (some (false, .int x)) (some (false, fd f)) (some (true, pl f.s)) h
      refine ⟨fs', room', a5, a6, a7, h', ?_⟩
      rw [ei, forR_cons]
      rw [show (setD 5 (false, .int x) ⟨[some (false, q), some (false, .int 11), some (false, .int room), some (true, .lst (fs.map fd)), some (true, .lst (fs.map fun f => pl f.s)), o5, o6, o7], ob⟩).bind (evS (tab t.lw (n + 4)) (.seq (.asg 6 (.call 23 (.acons (.var 5) (.acons (.var 1) (.anil)))))
    (.seq (.asg 7 (.call 22 (.acons (.var 6) (.anil))))
    (.seq (.ite (.and (.cmp .NotIn (.var 7) (.var 4)) (.cmp .LtE (.bin .Sub (.b1 .len (.var 7)) (.con (.int 1))) (.var 2))) (.seq (.ex (.app 3 (.var 6)))
    (.seq (.ex (.app 4 (.var 7)))
    (.seq (.asg 2 (.bin .Add (.bin .Sub (.var 2) (.b1 .len (.var 7))) (.con (.int 1))))
    (.nil)))) (.nil))
    (.nil))))) = some (.nx ⟨[some (false, q), some (false, .int 11), some (false, .int room), some (true, .lst (fs.map fd)), some (true, .lst (fs.map fun f => pl f.s)), some (false, .int x), some (false, fd f), some (true, pl f.s)], ob⟩) by
        simp [e1, e2, hin, c1], thenO_nx]
      exact e
    · by_cases c2 : (f.s.length : Int) - 1 ≤ room
      · have h2 : FIn (fs ++ [f]) (room - f.s.length + 1) := by
          refine ⟨fun g hg => ?_, ?_, ?_, by omega⟩
          · rcases List.mem_append.mp hg with hg | hg
            · exact h.ok g hg
            · rw [List.mem_singleton.mp hg]
              exact hf
          · refine List.pairwise_append.mpr ⟨h.ne, List.pairwise_singleton _ _, fun a ha b hb => ?_⟩
            rw [List.mem_singleton.mp hb]
            exact fun z => c1 (List.mem_map.mpr ⟨a, ha, z⟩)
          · rw [dsum_app]
            have := h.sum
            omega
        obtain ⟨fs', room', a5, a6, a7, h', e⟩ := factors_for n q ob r (fs ++ [f]) (room - f.s.length + 1) (some (false, .int x)) (some (false, fd f)) (some (false, pl f.s)) h2
        refine ⟨fs', room', a5, a6, a7, h', ?_⟩
        rw [ei, forR_cons]
        rw [show (setD 5 (false, .int x) ⟨[some (false, q), some (false, .int 11), some (false, .int room), some (true, .lst (fs.map fd)), some (true, .lst (fs.map fun f => pl f.s)), o5, o6, o7], ob⟩).bind (evS (tab t.lw (n + 4)) (.seq (.asg 6 (.call 23 (.acons (.var 5) (.acons (.var 1) (.anil)))))
    (.seq (.asg 7 (.call 22 (.acons (.var 6) (.anil))))
    (.seq (.ite (.and (.cmp .NotIn (.var 7) (.var 4)) (.cmp .LtE (.bin .Sub (.b1 .len (.var 7)) (.con (.int 1))) (.var 2))) (.seq (.ex (.app 3 (.var 6)))
    (.seq (.ex (.app 4 (.var 7)))
    (.seq (.asg 2 (.bin .Add (.bin .Sub (.var 2) (.b1 .len (.var 7))) (.con (.int 1))))
    (.nil)))) (.nil))
    (.nil))))) = some (.nx ⟨[some (false, q), some (false, .int 11), some (false, .int (room - f.s.length + 1)), some (true, .lst ((fs ++ [f]).map fd)), some (true, .lst ((fs ++ [f]).map fun f => pl f.s)), some (false, .int x), some (false, fd f), some (false, pl f.s)], ob⟩) by
          simp [e1, e2, hin, c1, c2, len_intl, hl], thenO_nx]
        exact e
      · obtain ⟨fs', room', a5, a6, a7, h', e⟩ := factors_for n q ob r fs room (some (false, .int x)) (some (false, fd f)) (some (true, pl f.s)) h
        refine ⟨fs', room', a5, a6, a7, h', ?_⟩
        rw [ei, forR_cons]
        rw [show (setD 5 (false, .int x) ⟨[some (false, q), some (false, .int 11), some (false, .int room), some (true, .lst (fs.map fd)), some (true, .lst (fs.map fun f => pl f.s)), o5, o6, o7], ob⟩).bind (evS (tab t.lw (n + 4)) (.seq (.asg 6 (.call 23 (.acons (.var 5) (.acons (.var 1) (.anil)))))
    (.seq (.asg 7 (.call 22 (.acons (.var 6) (.anil))))
    (.seq (.ite (.and (.cmp .NotIn (.var 7) (.var 4)) (.cmp .LtE (.bin .Sub (.b1 .len (.var 7)) (.con (.int 1))) (.var 2))) (.seq (.ex (.app 3 (.var 6)))
    (.seq (.ex (.app 4 (.var 7)))
    (.seq (.asg 2 (.bin .Add (.bin .Sub (.var 2) (.b1 .len (.var 7))) (.con (.int 1))))
    (.nil)))) (.nil))
    (.nil))))) = some (.nx ⟨[some (false, q), some (false, .int 11), some (false, .int room), some (true, .lst (fs.map fd)), some (true, .lst (fs.map fun f => pl f.s)), some (false, .int x), some (false, fd f), some (true, pl f.s)], ob⟩) by
          simp [e1, e2, hin, c1, c2, len_intl, hl], thenO_nx]
        exact e
theorem factors_by_ok (n : Nat) (l : List Int) (ob : List OE) : ∃ fs room, FIn fs room ∧ S__law_factors_by (n + 4) [.lst (intl l), .int 11, .int 2] ob = some (.ret true (.lst (fs.map fd)) ob) := by
  rw [E__law_factors_by]
  unfold b__law_factors_by
  obtain ⟨fs, room, o5, o6, o7, h, e⟩ := factors_for n (.lst (intl l)) ob l [] 2 none none none ⟨fun f hf => by simp at hf, List.Pairwise.nil, rfl, by omega⟩
  refine ⟨fs, room, h, def_rt (s := ⟨[some (false, .lst (intl l)), some (false, .int 11), some (false, .int room), none, some (true, .lst (fs.map fun f => pl f.s)), o5, o6, o7], ob⟩) ?_ rfl⟩
  refine seq_nx (s1 := ⟨[some (false, .lst (intl l)), some (false, .int 11), some (false, .int 2), some (true, .lst []), none, none, none, none], ob⟩) (by simp) ?_
  refine seq_nx (s1 := ⟨[some (false, .lst (intl l)), some (false, .int 11), some (false, .int 2), some (true, .lst []), some (true, .lst []), none, none, none], ob⟩) (by simp) ?_
  refine seq_nx (s1 := ⟨[some (false, .lst (intl l)), some (false, .int 11), some (false, .int room), some (true, .lst (fs.map fd)), some (true, .lst (fs.map fun f => pl f.s)), o5, o6, o7], ob⟩) ?_ (seq_rt (by simp))
  simp
  exact e
/-! ### products -/
def prodL : List Int → List Fac → List Int
  | a, [] => a
  | a, f :: r => prodL (mulP a f.s) r
theorem prod_for (n : Nat) (q : D) (ob : List OE) : ∀ (fs : List Fac) (a : List Int) (K : Nat) (o2 : Option (Bool × D)), (∀ f ∈ fs, f.ok) → btl K a → a ≠ [] → K + fs.length * 20 ≤ 60 → a.length + 2 * fs.length ≤ 10 → ∃ o2',
    forR (fun d s => (setD 2 (false, d) s).bind (evS (tab t.lw (n + 4)) (.seq (.asg 1 (.call 24 (.acons (.var 1) (.acons (.call 22 (.acons (.var 2) (.anil))) (.anil)))))
    (.nil)))) (fs.map fd) ⟨[some (false, q), some (true, pl a), o2], ob⟩ = some (.nx ⟨[some (false, q), some (true, pl (prodL a fs)), o2'], ob⟩)
  | [], a, K, o2, _, _, _, _, _ => ⟨o2, rfl⟩
  | f :: r, a, K, o2, h, ha, a0, hK, hl => by
    have hK2 : K + (r.length + 1) * 20 ≤ 60 := hK
    have hl2 : a.length + 2 * (r.length + 1) ≤ 10 := hl
    have hf := h f (List.mem_cons_self ..)
    have sl := fac_slen f
    have s0 : f.s ≠ [] := fun z => by rw [z] at sl; simp at sl
    have ml := mulP_len a0 s0
    have m0 : mulP a f.s ≠ [] := fun z => by
      have := List.length_pos_iff.mpr a0
      rw [z] at ml
      simp at ml
      omega
    have mb : btl (K + 20) (mulP a f.s) := (mulP_bt ha (shr_bt (fac_nz hf).1 (fac_nz hf).2 (fac_bt hf))).mono (by omega)
    obtain ⟨o2', e⟩ := prod_for n q ob r (mulP a f.s) (K + 20) (some (false, fd f)) (fun g hg => h g (List.mem_cons_of_mem _ hg)) mb m0 (by omega) (by omega)
    refine ⟨o2', ?_⟩
    have ei : (f :: r).map fd = fd f :: r.map fd := rfl
    have e1 := mul_ok (n + 3) a f.s ob (btl_sml ha (by omega)) (by omega) (by omega)
    have e2 := shape_ok n f hf ob
    rw [ei, forR_cons]
    have step : (setD 2 (false, fd f) ⟨[some (false, q), some (true, pl a), o2], ob⟩).bind (evS (tab t.lw (n + 4)) (.seq (.asg 1 (.call 24 (.acons (.var 1) (.acons (.call 22 (.acons (.var 2) (.anil))) (.anil)))))
    (.nil))) = some (.nx ⟨[some (false, q), some (true, pl (mulP a f.s)), some (false, fd f)], ob⟩) := by simp [e1, e2]
    rw [step, thenO_nx]
    exact e
theorem product_ok (n : Nat) (fs : List Fac) (ob : List OE) (h : ∀ f ∈ fs, f.ok) (hl : fs.length ≤ 2) : S__law_product (n + 4) [.lst (fs.map fd)] ob = some (.ret true (pl (prodL [1] fs)) ob) := by
  rw [E__law_product]
  unfold b__law_product
  obtain ⟨o2, e⟩ := prod_for n (.lst (fs.map fd)) ob fs [1] 1 none h (btl_of 1 (by simp)) (by simp) (by omega) (by simp; omega)
  refine def_rt (s := ⟨[some (false, .lst (fs.map fd)), none, o2], ob⟩) ?_ rfl
  refine seq_nx (s1 := ⟨[some (false, .lst (fs.map fd)), some (true, pl [1]), none], ob⟩) (by simp [intl]) ?_
  refine seq_nx (s1 := ⟨[some (false, .lst (fs.map fd)), some (true, pl (prodL [1] fs)), o2], ob⟩) ?_ (seq_rt (by simp))
  simp
  exact e
/-! ### roots -/
def Spot.l : Spot → List Int
  | .cub u => [u.a, u.b, u.c, u.m, 0]
  | .quad u e b sg => [u, e, b, sg]
def sd (s : Spot) : D := .tup (intl (Spot.l s))
def rt1 (f : Fac) : List Spot := (if 0 ≤ f.e then [.quad f.u f.e f.b 1] else []) ++ (if 0 < f.e then [.quad f.u f.e f.b (-1)] else [])
def rts : List Fac → List Spot
  | [] => []
  | f :: r => rt1 f ++ rts r
theorem rt1_len (f : Fac) : (rt1 f).length ≤ 2 := by
  unfold rt1
  split <;> split <;> simp
theorem roots_for (n : Nat) (q : D) (ob : List OE) : ∀ (fs : List Fac) (a : List Spot) (o2 : Option (Bool × D)), a.length + 2 * fs.length ≤ 10 → ∃ o2',
    forR (fun d s => (setD 2 (false, d) s).bind (evS (tab t.lw n) (.seq (.ite (.cmp .GtE (.idx (.var 2) (.con (.int 1))) (.con (.int 0))) (.seq (.ex (.app 1 (.tup (.acons (.idx (.var 2) (.con (.int 0))) (.acons (.idx (.var 2) (.con (.int 1))) (.acons (.idx (.var 2) (.con (.int 2))) (.acons (.con (.int 1)) (.anil))))))))
    (.nil)) (.nil))
    (.seq (.ite (.cmp .Gt (.idx (.var 2) (.con (.int 1))) (.con (.int 0))) (.seq (.ex (.app 1 (.tup (.acons (.idx (.var 2) (.con (.int 0))) (.acons (.idx (.var 2) (.con (.int 1))) (.acons (.idx (.var 2) (.con (.int 2))) (.acons (.neg (.con (.int 1))) (.anil))))))))
    (.nil)) (.nil))
    (.nil))))) (fs.map fd) ⟨[some (false, q), some (true, .lst (a.map sd)), o2], ob⟩ = some (.nx ⟨[some (false, q), some (true, .lst ((a ++ rts fs).map sd)), o2'], ob⟩)
  | [], a, o2, _ => ⟨o2, by show _ = some (Out.nx ⟨[some (false, q), some (true, .lst ((a ++ []).map sd)), o2], ob⟩); rw [List.append_nil]; rfl⟩
  | f :: r, a, o2, hl => by
    have hl2 : a.length + 2 * (r.length + 1) ≤ 10 := hl
    have l1 := rt1_len f
    obtain ⟨o2', e⟩ := roots_for n q ob r (a ++ rt1 f) (some (false, fd f)) (by simp; omega)
    refine ⟨o2', ?_⟩
    have ei : (f :: r).map fd = fd f :: r.map fd := rfl
    have hL : a.length < 16777216 := by omega
    have hL1 : a.length + 1 < 16777216 := by omega
    have hL2 : a.length < 16777215 := by omega
    rw [ei, forR_cons]
    have step : (setD 2 (false, fd f) ⟨[some (false, q), some (true, .lst (a.map sd)), o2], ob⟩).bind (evS (tab t.lw n) (.seq (.ite (.cmp .GtE (.idx (.var 2) (.con (.int 1))) (.con (.int 0))) (.seq (.ex (.app 1 (.tup (.acons (.idx (.var 2) (.con (.int 0))) (.acons (.idx (.var 2) (.con (.int 1))) (.acons (.idx (.var 2) (.con (.int 2))) (.acons (.con (.int 1)) (.anil))))))))
    (.nil)) (.nil))
    (.seq (.ite (.cmp .Gt (.idx (.var 2) (.con (.int 1))) (.con (.int 0))) (.seq (.ex (.app 1 (.tup (.acons (.idx (.var 2) (.con (.int 0))) (.acons (.idx (.var 2) (.con (.int 1))) (.acons (.idx (.var 2) (.con (.int 2))) (.acons (.neg (.con (.int 1))) (.anil))))))))
    (.nil)) (.nil))
    (.nil)))) = some (.nx ⟨[some (false, q), some (true, .lst ((a ++ rt1 f).map sd)), some (false, fd f)], ob⟩) := by
      unfold rt1
      by_cases c1 : 0 ≤ f.e
      · by_cases c2 : 0 < f.e
        · simp [fd, c1, c2, hL, hL1, hL2, sd, Spot.l, intl]
        · simp [fd, c1, c2, hL, hL1, hL2, sd, Spot.l, intl]
      · have c2 : ¬ (0 < f.e) := by omega
        simp [fd, c1, c2, hL, hL1, hL2, sd, Spot.l, intl]
    rw [step, thenO_nx, e]
    show some (Out.nx ⟨[some (false, q), some (true, .lst ((a ++ rt1 f ++ rts r).map sd)), o2'], ob⟩) = some (Out.nx ⟨[some (false, q), some (true, .lst ((a ++ (rt1 f ++ rts r)).map sd)), o2'], ob⟩)
    rw [List.append_assoc]
theorem roots_ok (n : Nat) (fs : List Fac) (ob : List OE) (hl : fs.length ≤ 2) : S__law_roots_of n [.lst (fs.map fd)] ob = some (.ret true (.lst ((rts fs).map sd)) ob) := by
  rw [E__law_roots_of]
  unfold b__law_roots_of
  obtain ⟨o2, e⟩ := roots_for n (.lst (fs.map fd)) ob fs [] none (by simp; omega)
  refine def_rt (s := ⟨[some (false, .lst (fs.map fd)), none, o2], ob⟩) ?_ rfl
  refine seq_nx (s1 := ⟨[some (false, .lst (fs.map fd)), some (true, .lst []), none], ob⟩) (by simp) ?_
  refine seq_nx (s1 := ⟨[some (false, .lst (fs.map fd)), some (true, .lst ((rts fs).map sd)), o2], ob⟩) ?_ (seq_rt (by simp))
  simp
  exact e
/-! ### cubes -/
theorem cube_shape_ok (n : Nat) (u : Cb) (h : u.ok) (ob : List OE) : S__law_cube_shape (n + 1) [sd (.cub u)] ob = some (.ret true (pl u.p) ob) := by
  rw [E__law_cube_shape]
  unfold b__law_cube_shape sd Spot.l Cb.p
  obtain ⟨a, b, c, m⟩ := u
  obtain ⟨a1, a2, b1, b2, c1, c2, m1, m2, nz⟩ := h
  have sa : sm a := sm_of 9 a1 a2 (by omega)
  have sb : sm b := sm_of 3 b1 b2 (by omega)
  have sc : sm c := sm_of 3 c1 c2 (by omega)
  have sM : sm m := sm_of 9 (by simp at m1 ⊢; omega) (by simp at m2 ⊢; omega) (by omega)
  have nz : b = 0 → ¬ c = 0 := fun hb hc => nz ⟨hb, hc⟩
  have m3 : ∀ x, IntMulOk 3 x := fun x => mulL (smK 3 (by omega))
  have m4 : IntMulOk (-3) a := mulR sa
  by_cases hb : b = 0
  · have hc := nz hb
    subst hb
    simp [sa, sb, sc, sM, m3, m4, mulR sa, mulR sb, mulR sc, hc, intl]
  · simp [sa, sb, sc, sM, m3, m4, mulR sa, mulR sb, mulR sc, hb, intl]
theorem pick6 {k : Int} (h : 0 ≤ k ∧ k < 6) : ∃ m : Int, 2 ≤ m ∧ m ≤ 7 ∧ atI [D.int 2, .int 3, .int 4, .int 5, .int 6, .int 7] k = some (.int m) := by
  have : k = 0 ∨ k = 1 ∨ k = 2 ∨ k = 3 ∨ k = 4 ∨ k = 5 := by omega
  rcases this with rfl | rfl | rfl | rfl | rfl | rfl
  · exact ⟨2, by omega, by omega, rfl⟩
  · exact ⟨3, by omega, by omega, rfl⟩
  · exact ⟨4, by omega, by omega, rfl⟩
  · exact ⟨5, by omega, by omega, rfl⟩
  · exact ⟨6, by omega, by omega, rfl⟩
  · exact ⟨7, by omega, by omega, rfl⟩
theorem cube_by_ok (n : Nat) (x y z : Int) (ob : List OE) : ∃ u : Cb, u.ok ∧ S__law_cube_by (n + 1) [.int x, .int y, .int z] ob = some (.ret false (sd (.cub u)) ob) := by
  rw [E__law_cube_by]
  unfold b__law_cube_by
  obtain ⟨m, m1, m2, m4⟩ := pick6 (fmod_rng z (m := 6) (by omega))
  have ha := fmod_rng x (m := 19) (by omega)
  have hb := fmod_rng y (m := 7) (by omega)
  have hc := fmod_rng (y.fdiv 7) (m := 7) (by omega)
  have w9 : ∀ (n : Nat) (x : Int) (ob : List OE), S__law_within n [.int x, .int 9] ob = some (.ret false (.int (x.fmod 19 - 9)) ob) := fun n x ob => within_ok n x 9 ob (by omega)
  have w3 : ∀ (n : Nat) (x : Int) (ob : List OE), S__law_within n [.int x, .int 3] ob = some (.ret false (.int (x.fmod 7 - 3)) ob) := fun n x ob => within_ok n x 3 ob (by omega)
  have d7 : Builtin.divisionGoesByPylong y 7 = false := divOk (smK 7 (by omega))
  by_cases hz : y.fmod 7 - 3 = 0 ∧ (y.fdiv 7).fmod 7 - 3 = 0
  · refine ⟨⟨x.fmod 19 - 9, 1, (y.fdiv 7).fmod 7 - 3, m⟩, ⟨by simp; omega, by simp; omega, by simp, by simp, by simp; omega, by simp; omega, m1, m2, by simp⟩, ?_⟩
    simp [w9, w3, d7, hz.1, hz.2, m4, sd, Spot.l, intl]
  · refine ⟨⟨x.fmod 19 - 9, y.fmod 7 - 3, (y.fdiv 7).fmod 7 - 3, m⟩, ⟨by simp; omega, by simp; omega, by simp; omega, by simp; omega, by simp; omega, by simp; omega, m1, m2, hz⟩, ?_⟩
    by_cases h1 : y.fmod 7 - 3 = 0
    · have h2 : ¬ ((y.fdiv 7).fmod 7 - 3 = 0) := fun h => hz ⟨h1, h⟩
      simp [w9, w3, d7, h1, h2, m4, sd, Spot.l, intl]
    · simp [w9, w3, d7, h1, m4, sd, Spot.l, intl]
theorem cube_bt {u : Cb} (h : u.ok) : btl 13 u.p := by
  obtain ⟨a1, a2, b1, b2, c1, c2, m1, m2, nz⟩ := h
  obtain ⟨a, b, c, m⟩ := u
  simp only at *
  have aa := ab2i a1 a2 a1 a2
  have aaa := ab2i aa.1 aa.2 a1 a2
  have bb := ab2i b1 b2 b1 b2
  have bbb := ab2i bb.1 bb.2 b1 b2
  have cc := ab2i c1 c2 c1 c2
  have ccc := ab2i cc.1 cc.2 c1 c2
  have mm := ab2i (show -7 ≤ m by omega) m2 (show -7 ≤ m by omega) m2
  have t1 := ab2i (show -7 ≤ m by omega) m2 bbb.1 bbb.2
  have t2 := ab2i mm.1 mm.2 ccc.1 ccc.2
  have bc := ab2i b1 b2 c1 c2
  have mbc := ab2i (show -7 ≤ m by omega) m2 bc.1 bc.2
  have mabc := ab2i a1 a2 mbc.1 mbc.2
  have e1 : Ir86.nr a b c m = a * a * a + m * (b * b * b) + m * m * (c * c * c) - 3 * (a * (m * (b * c))) := by
    unfold Ir86.nr
    grind
  have e2 : 3 * a * a - 3 * m * b * c = 3 * (a * a) - 3 * (m * (b * c)) := by grind
  unfold Cb.p
  simp only
  rw [e1, e2]
  exact btl_of 13 (by simp; omega)
end P87
set_option Elab.async false
set_option linter.all false
set_option maxRecDepth 100000
set_option maxHeartbeats 4000000
/-! ways, spans -/
namespace P87
open PySem L2 Ev C87 Pd Qd Rl Mt86
theorem smul {a b A B : Int} (h1 : -A ≤ a) (h2 : a ≤ A) (h3 : 0 ≤ b) (h4 : b ≤ B) : -(A * B) ≤ a * b ∧ a * b ≤ A * B := by
  have p1 := Int.mul_nonneg (show 0 ≤ A - a by omega) h3
  have p2 := Int.mul_nonneg (show 0 ≤ A + a by omega) h3
  have p3 := Int.mul_nonneg (show 0 ≤ A by omega) (show 0 ≤ B - b by omega)
  constructor <;> grind
theorem way_ok (n : Nat) (m : Int) (s : Spot) (hs : s.ok m) (x d : Int) (ob : List OE) (hd : 0 ≤ d) (hd2 : d ≤ 2 ^ 53) (hx : -(64 * 2 ^ 53) ≤ x) (hx2 : x ≤ 64 * 2 ^ 53) : S__law_way (n + 2) [sd s, .int x, .int d] ob = some (.ret false (.int (s.way x d)) ob) := by
  rw [E__law_way]
  unfold b__law_way
  cases s with
  | cub u =>
    obtain ⟨⟨a1, a2, b1, b2, c1, c2, m1, m2, nz⟩, _⟩ := hs
    have ha := smul a1 a2 hd hd2
    have hb := smul b1 b2 hd hd2
    have hc := smul c1 c2 hd hd2
    have sa : sm u.a := sm_of 9 a1 a2 (by omega)
    have sb : sm u.b := sm_of 3 b1 b2 (by omega)
    have sc : sm u.c := sm_of 3 c1 c2 (by omega)
    have sM : sm u.m := sm_of 9 (by omega) (by omega) (by omega)
    have s1 : sm (u.a * d - x) := ⟨by omega, by omega⟩
    have s2 : sm (u.b * d) := ⟨by omega, by omega⟩
    have s3 : sm (u.c * d) := ⟨by omega, by omega⟩
    simp [sd, Spot.l, intl, Spot.way, Cb.way, mulL sa, mulL sb, mulL sc, s1, s2, s3, sM]
  | quad u e b sg =>
    obtain ⟨u1, u2, b1, b2, e1, e2, sq, hsg⟩ := hs
    have hu := smul u1 u2 hd hd2
    have hb := ab2i (show -3 ≤ b by omega) b2 hx hx2
    have su : sm u := sm_of 11 u1 u2 (by omega)
    have sb : sm b := sm_of 3 (by omega) b2 (by omega)
    have se : sm e := sm_of 35 (by omega) e2 (by omega)
    have sD : sm d := ⟨by omega, by omega⟩
    have s1 : sm (b * x - u * d) := ⟨by omega, by omega⟩
    have s2 : sm (-(b * x - u * d)) := ⟨by omega, by omega⟩
    have e3 : (-(b * x - u * d)) = u * d - b * x := by omega
    have s3 : sm (u * d - b * x) := ⟨by omega, by omega⟩
    rw [e3] at s2
    have call : S__law_side (n + 1) [.tup [.int u, .int e, .int b, .int sg], .int x, .int d] ob = some (.ret false (.int (Spot.way x d (.quad u e b sg))) ob) := by
      rw [E__law_side]
      unfold b__law_side Spot.way
      by_cases c : 0 < sg
      · simp [mulL su, mulL sb, mulL se, mulR sD, s1, c]
      · simp [mulL su, mulL sb, mulL se, mulR sD, s1, s2, s3, c, e3]
    simp [sd, Spot.l, intl, call]
/-! ### spans -/
structure Spn where
  x : Int
  y : Int
  z : Int
def Spn.d (s : Spn) : D := f3 s.x s.y s.z
def half (p : Spot) (s : Spn) : Spn := if p.way (s.x + s.y) (2 * s.z) ≤ 0 then ⟨2 * s.x, s.x + s.y, 2 * s.z⟩ else ⟨s.x + s.y, 2 * s.y, 2 * s.z⟩
/-- a span that holds the number, of width 128 over its bottom -/
structure Good (v : R) (s : Spn) (k : Nat) : Prop where
  z : s.z = 2 ^ k
  w : s.y = s.x + 128
  xl : -(64 * s.z) ≤ s.x
  yh : s.y ≤ 64 * s.z
  lo : (s.x : R) < (s.z : R) * v
  hi : (s.z : R) * v ≤ (s.y : R)
theorem pow_pos2 (k : Nat) : (0 : Int) < 2 ^ k := Int.pow_pos (by omega)
theorem pow_le2 {j k : Nat} (h : j ≤ k) : (2 : Int) ^ j ≤ 2 ^ k := by
  have := Nat.pow_le_pow_right (show 0 < 2 by omega) h
  exact_mod_cast this
theorem half_good {t : R} {m : Int} (ht : t * t * t = (m : R)) {p : Spot} (hp : p.ok m) {s : Spn} {k : Nat} (g : Good (p.v t) s k) : Good (p.v t) (half p s) (k + 1) := by
  have e2 : (2 : Int) ^ (k + 1) = 2 * 2 ^ k := by rw [Int.pow_succ]; omega
  have z0 := pow_pos2 k
  obtain ⟨h1, h2, h3, h4, h5, h6⟩ := g
  have w := way_spec ht hp (x := s.x + s.y) (d := 2 * s.z) (by omega)
  have c2 : ((2 * s.z : Int) : R) = 2 * (s.z : R) := by rw [int_mul]; rfl
  have c3 : ((2 * s.x : Int) : R) = 2 * (s.x : R) := by rw [int_mul]; rfl
  have c4 : ((2 * s.y : Int) : R) = 2 * (s.y : R) := by rw [int_mul]; rfl
  unfold half
  by_cases h : p.way (s.x + s.y) (2 * s.z) ≤ 0
  · rw [if_pos h]
    have nw : ¬ ((s.x + s.y : Int) : R) < ((2 * s.z : Int) : R) * p.v t := fun z => by
      have := w.1.mpr z
      omega
    exact ⟨by show 2 * s.z = _; omega, by show s.x + s.y = 2 * s.x + 128; omega, by show -(64 * (2 * s.z)) ≤ 2 * s.x; omega, by show s.x + s.y ≤ 64 * (2 * s.z); omega, by show ((2 * s.x : Int) : R) < ((2 * s.z : Int) : R) * _; rw [c2, c3]; grind, by show ((2 * s.z : Int) : R) * _ ≤ ((s.x + s.y : Int) : R); grind⟩
  · rw [if_neg h]
    have wn := w.1.mp (by omega)
    exact ⟨by show 2 * s.z = _; omega, by show 2 * s.y = s.x + s.y + 128; omega, by show -(64 * (2 * s.z)) ≤ s.x + s.y; omega, by show 2 * s.y ≤ 64 * (2 * s.z); omega, wn, by show ((2 * s.z : Int) : R) * _ ≤ ((2 * s.y : Int) : R); rw [c2, c4]; grind⟩
theorem half_in (p : Spot) (s : Spn) (h : s.x < s.y) : 2 * s.x ≤ (half p s).x ∧ (half p s).y ≤ 2 * s.y ∧ (half p s).z = 2 * s.z := by
  unfold half
  split
  · exact ⟨by simp, by simp; omega, rfl⟩
  · exact ⟨by simp; omega, by simp, rfl⟩
theorem Good.bd {v : R} {s : Spn} {k : Nat} (g : Good v s k) (hk : k ≤ 52) : 0 < s.z ∧ s.z ≤ 2 ^ 52 := by
  have := pow_pos2 k
  have := pow_le2 hk
  have := g.z
  omega
theorem half_ok (n : Nat) {t : R} {m : Int} (p : Spot) (hp : p.ok m) (s : Spn) {v : R} {k : Nat} (g : Good v s k) (hk : k ≤ 51) (ob : List OE) : S__law_half (n + 3) [s.d, sd p] ob = some (.ret false (half p s).d ob) := by
  rw [E__law_half]
  unfold b__law_half
  have z0 := pow_pos2 k
  have z1 := pow_le2 hk
  have hz := g.z
  have h3 := g.xl
  have h4 := g.yh
  have hw := g.w
  have e := way_ok n m p hp (s.x + s.y) (2 * s.z) ob (by omega) (by omega) (by omega) (by omega)
  have m2 : ∀ x, IntMulOk 2 x := fun x => mulL (smK 2 (by omega))
  by_cases h : p.way (s.x + s.y) (2 * s.z) ≤ 0
  · simp [Spn.d, half, h, e, m2]
  · simp [Spn.d, half, h, e, m2]
/-! ### alone -/
theorem spot_l {p q : Spot} (h : Spot.l p = Spot.l q) : p = q := by
  cases p with
  | cub u =>
    cases q with
    | cub v =>
      obtain ⟨a, b, c, d⟩ := u
      obtain ⟨a', b', c', d'⟩ := v
      simp only [Spot.l, List.cons.injEq] at h
      obtain ⟨rfl, rfl, rfl, rfl, _⟩ := h
      rfl
    | quad u e b sg => simp [Spot.l] at h
  | quad u e b sg =>
    cases q with
    | cub v => simp [Spot.l] at h
    | quad u' e' b' sg' =>
      simp only [Spot.l, List.cons.injEq] at h
      obtain ⟨rfl, rfl, rfl, rfl, _⟩ := h
      rfl
def metB (o : Spot) (s : Spn) : Bool := decide (0 ≤ o.way s.x s.z) && decide (o.way s.y s.z ≤ 0)
def alB (L : List Spot) (p : Spot) (s : Spn) : Bool := L.all fun o => decide (Spot.l o = Spot.l p) || !metB o s
theorem alone_for (n : Nat) {m : Int} (p : Spot) (s : Spn) {v : R} {k : Nat} (g : Good v s k) (hk : k ≤ 52) (q : D) (ob : List OE) : ∀ (L : List Spot) (o3 o4 o5 : Option (Bool × D)), (∀ o ∈ L, o.ok m) → ∃ o3' o4' o5',
    forR (fun d s => (setD 3 (false, d) s).bind (evS (tab t.lw (n + 3)) (.seq (.asg 4 (.call 33 (.acons (.var 3) (.acons (.idx (.var 2) (.con (.int 0))) (.acons (.idx (.var 2) (.con (.int 2))) (.anil))))))
    (.seq (.asg 5 (.call 33 (.acons (.var 3) (.acons (.idx (.var 2) (.con (.int 1))) (.acons (.idx (.var 2) (.con (.int 2))) (.anil))))))
    (.seq (.ite (.and (.cmp .NotEq (.var 3) (.var 1)) (.and (.cmp .GtE (.var 4) (.con (.int 0))) (.cmp .LtE (.var 5) (.con (.int 0))))) (.seq (.ret (.con (.bool false)))
    (.nil)) (.nil))
    (.nil)))))) (L.map sd) ⟨[some (false, q), some (false, sd p), some (false, s.d), o3, o4, o5], ob⟩ =
      some (if alB L p s = true then .nx ⟨[some (false, q), some (false, sd p), some (false, s.d), o3', o4', o5'], ob⟩ else .rt false (.bl false) ⟨[some (false, q), some (false, sd p), some (false, s.d), o3', o4', o5'], ob⟩)
  | [], o3, o4, o5, _ => ⟨o3, o4, o5, rfl⟩
  | o :: r, o3, o4, o5, h => by
    have ho := h o (List.mem_cons_self ..)
    have hb := g.bd hk
    have h3 := g.xl
    have h4 := g.yh
    have hw := g.w
    have e1 := way_ok n m o ho s.x s.z ob (by omega) (by omega) (by omega) (by omega)
    have e2 := way_ok n m o ho s.y s.z ob (by omega) (by omega) (by omega) (by omega)
    have ei : (o :: r).map sd = sd o :: r.map sd := rfl
    have eq : eqD (sd o) (sd p) = some (decide (Spot.l o = Spot.l p)) := eq_tp _ _
    have hal : alB (o :: r) p s = ((decide (Spot.l o = Spot.l p) || !metB o s) && alB r p s) := rfl
    by_cases c : (decide (Spot.l o = Spot.l p) || !metB o s) = true
    · obtain ⟨a3, a4, a5, e⟩ := alone_for n p s g hk q ob r (some (false, sd o)) (some (false, .int (o.way s.x s.z))) (some (false, .int (o.way s.y s.z))) (fun x hx => h x (List.mem_cons_of_mem _ hx))
      refine ⟨a3, a4, a5, ?_⟩
      rw [ei, forR_cons]
      have step : (setD 3 (false, sd o) ⟨[some (false, q), some (false, sd p), some (false, s.d), o3, o4, o5], ob⟩).bind (evS (tab t.lw (n + 3)) (.seq (.asg 4 (.call 33 (.acons (.var 3) (.acons (.idx (.var 2) (.con (.int 0))) (.acons (.idx (.var 2) (.con (.int 2))) (.anil))))))
    (.seq (.asg 5 (.call 33 (.acons (.var 3) (.acons (.idx (.var 2) (.con (.int 1))) (.acons (.idx (.var 2) (.con (.int 2))) (.anil))))))
    (.seq (.ite (.and (.cmp .NotEq (.var 3) (.var 1)) (.and (.cmp .GtE (.var 4) (.con (.int 0))) (.cmp .LtE (.var 5) (.con (.int 0))))) (.seq (.ret (.con (.bool false)))
    (.nil)) (.nil))
    (.nil))))) = some (.nx ⟨[some (false, q), some (false, sd p), some (false, s.d), some (false, sd o), some (false, .int (o.way s.x s.z)), some (false, .int (o.way s.y s.z))], ob⟩) := by
        by_cases c1 : Spot.l o = Spot.l p
        · simp [Spn.d, e1, e2, eq, c1]
        · simp only [c1, decide_false, Bool.false_or, Bool.not_eq_true', metB] at c
          by_cases c2 : 0 ≤ o.way s.x s.z
          · by_cases c3 : o.way s.y s.z ≤ 0
            · simp [c2, c3] at c
            · simp [Spn.d, e1, e2, eq, c1, c2, c3]
          · simp [Spn.d, e1, e2, eq, c1, c2]
      rw [step, thenO_nx, e, hal, c, Bool.true_and]
    · refine ⟨some (false, sd o), some (false, .int (o.way s.x s.z)), some (false, .int (o.way s.y s.z)), ?_⟩
      rw [ei, forR_cons]
      have c1 : ¬ (Spot.l o = Spot.l p) := fun z => c (by rw [decide_eq_true z]; rfl)
      have c23 : metB o s = true := by
        cases q : metB o s with
        | true => rfl
        | false => exact absurd (by rw [q]; simp) c
      unfold metB at c23
      simp only [Bool.and_eq_true, decide_eq_true_eq] at c23
      have step : (setD 3 (false, sd o) ⟨[some (false, q), some (false, sd p), some (false, s.d), o3, o4, o5], ob⟩).bind (evS (tab t.lw (n + 3)) (.seq (.asg 4 (.call 33 (.acons (.var 3) (.acons (.idx (.var 2) (.con (.int 0))) (.acons (.idx (.var 2) (.con (.int 2))) (.anil))))))
    (.seq (.asg 5 (.call 33 (.acons (.var 3) (.acons (.idx (.var 2) (.con (.int 1))) (.acons (.idx (.var 2) (.con (.int 2))) (.anil))))))
    (.seq (.ite (.and (.cmp .NotEq (.var 3) (.var 1)) (.and (.cmp .GtE (.var 4) (.con (.int 0))) (.cmp .LtE (.var 5) (.con (.int 0))))) (.seq (.ret (.con (.bool false)))
    (.nil)) (.nil))
    (.nil))))) = some (.rt false (.bl false) ⟨[some (false, q), some (false, sd p), some (false, s.d), some (false, sd o), some (false, .int (o.way s.x s.z)), some (false, .int (o.way s.y s.z))], ob⟩) := by
        simp [Spn.d, e1, e2, eq, c1, c23.1, c23.2]
      rw [step, thenO_rt, hal, if_neg (by simp [c])]
theorem alone_ok (n : Nat) {m : Int} (L : List Spot) (hL : ∀ o ∈ L, o.ok m) (p : Spot) (s : Spn) {v : R} {k : Nat} (g : Good v s k) (hk : k ≤ 52) (ob : List OE) : S__law_alone (n + 3) [.lst (L.map sd), sd p, s.d] ob = some (.ret false (.bl (alB L p s)) ob) := by
  rw [E__law_alone]
  unfold b__law_alone
  obtain ⟨o3, o4, o5, e⟩ := alone_for n p s g hk (.lst (L.map sd)) ob L none none none hL
  by_cases c : alB L p s = true
  · rw [if_pos c] at e
    refine def_rt (s := ⟨[some (false, .lst (L.map sd)), some (false, sd p), some (false, s.d), o3, o4, o5], ob⟩) ?_ rfl
    refine seq_nx (s1 := ⟨[some (false, .lst (L.map sd)), some (false, sd p), some (false, s.d), o3, o4, o5], ob⟩) ?_ (seq_rt (by simp [c]))
    simp
    exact e
  · rw [if_neg c] at e
    refine def_rt (s := ⟨[some (false, .lst (L.map sd)), some (false, sd p), some (false, s.d), o3, o4, o5], ob⟩) (seq_rt ?_) rfl
    simp [c]
    exact e
/-- spots that lie apart -/
structure Apart (t : R) (m : Int) (L : List Spot) : Prop where
  ok : ∀ o ∈ L, o.ok m
  far : ∀ o ∈ L, ∀ q ∈ L, o ≠ q → Far 57600000000 (o.v t - q.v t)
/-- no other within the span -/
def Nin (t : R) (L : List Spot) (p : Spot) (s : Spn) : Prop := ∀ o ∈ L, o ≠ p → ¬ ((s.x : R) ≤ (s.z : R) * o.v t ∧ (s.z : R) * o.v t ≤ (s.y : R))
theorem met_spec {t : R} {m : Int} (ht : t * t * t = (m : R)) {o : Spot} (ho : o.ok m) {s : Spn} (hz : 0 < s.z) : metB o s = true ↔ ((s.x : R) ≤ (s.z : R) * o.v t ∧ (s.z : R) * o.v t ≤ (s.y : R)) := by
  have w1 := way_spec ht ho (x := s.x) hz
  have w2 := way_spec ht ho (x := s.y) hz
  unfold metB
  simp only [Bool.and_eq_true, decide_eq_true_eq]
  constructor
  · intro h
    refine ⟨?_, ?_⟩
    · by_cases c : (s.x : R) ≤ (s.z : R) * o.v t
      · exact c
      · have := w1.2.mpr (by grind)
        omega
    · by_cases c : (s.z : R) * o.v t ≤ (s.y : R)
      · exact c
      · have := w2.1.mpr (by grind)
        omega
  · intro h
    refine ⟨?_, ?_⟩
    · by_cases c : 0 ≤ o.way s.x s.z
      · exact c
      · have := w1.2.mp (by omega)
        grind
    · by_cases c : o.way s.y s.z ≤ 0
      · exact c
      · have := w2.1.mp (by omega)
        grind
theorem al_spec {t : R} {m : Int} (ht : t * t * t = (m : R)) {L : List Spot} (hL : ∀ o ∈ L, o.ok m) {p : Spot} {s : Spn} (hz : 0 < s.z) : alB L p s = true ↔ Nin t L p s := by
  unfold alB Nin
  rw [List.all_eq_true]
  constructor
  · intro h o ho hne w
    have := h o ho
    rw [(met_spec ht (hL o ho) hz).mpr w] at this
    simp at this
    exact hne (spot_l this)
  · intro h o ho
    by_cases c : o = p
    · rw [c]
      simp
    · cases q : metB o s with
      | false => simp
      | true => exact absurd ((met_spec ht (hL o ho) hz).mp q) (h o ho c)
theorem nin_at {t : R} {m : Int} {L : List Spot} (hA : Apart t m L) {p : Spot} (hp : p ∈ L) {s : Spn} {k : Nat} (g : Good (p.v t) s k) (hk : 43 ≤ k) : Nin t L p s := fun o ho hne w => by
  have f := hA.far o ho p hp hne
  have z1 := int_le.mpr (pow_le2 hk)
  rw [← g.z] at z1
  have w2 : (s.y : R) = (s.x : R) + 128 := by
    rw [g.w, int_add]
    rfl
  have lo := g.lo
  have hi := g.hi
  have e5 : (((2 : Int) ^ 43 : Int) : R) = 8796093022208 := rfl
  rw [e5] at z1
  have o1 := one_pos
  rcases f with f | f
  · have := mul_nn (show 0 ≤ o.v t - p.v t by
      by_cases c : 0 ≤ o.v t - p.v t
      · exact c
      · grind) (show 0 ≤ (s.z : R) - 8796093022208 by grind)
    grind
  · have := mul_nn (show 0 ≤ -(o.v t - p.v t) by
      by_cases c : 0 ≤ -(o.v t - p.v t)
      · exact c
      · grind) (show 0 ≤ (s.z : R) - 8796093022208 by grind)
    grind
theorem nin_half {t : R} {L : List Spot} {p : Spot} {s : Spn} (hxy : s.x < s.y) (h : Nin t L p s) : Nin t L p (half p s) := fun o ho hne w => by
  obtain ⟨h1, h2, h3⟩ := half_in p s hxy
  have a1 := int_le.mpr h1
  have a2 := int_le.mpr h2
  rw [int_mul] at a1 a2
  have e2 : ((2 : Int) : R) = 2 := rfl
  rw [e2] at a1 a2
  have e3 : ((half p s).z : R) = 2 * (s.z : R) := by rw [h3, int_mul, e2]
  rw [e3] at w
  exact h o ho hne ⟨by grind, by grind⟩
theorem v_bd {t : R} {m : Int} (ht : t * t * t = (m : R)) (h0 : 0 < t) {p : Spot} (hp : p.ok m) : -64 < p.v t ∧ p.v t < 64 := by
  have o1 := one_pos
  cases p with
  | cub u =>
    obtain ⟨hu, hm⟩ := hp
    have t2 := t_bd (t := t) (m := u.m) (by rw [hm]; exact ht) hu.m2
    have a1 := ibd (x := u.a) 9 hu.a1 hu.a2
    have b1 := ibd (x := u.b) 3 hu.b1 hu.b2
    have c1 := ibd (x := u.c) 3 hu.c1 hu.c2
    have n9 : (((9 : Nat) : Int) : R) = 9 := rfl
    have n3 : (((3 : Nat) : Int) : R) = 3 := rfl
    rw [n9] at a1
    rw [n3] at b1 c1
    have b2 := tb h0 t2 b1.1 b1.2
    have c2 := ttb h0 t2 c1.1 c1.2
    show -64 < vl t u.a u.b u.c ∧ vl t u.a u.b u.c < 64
    unfold vl
    constructor <;> grind
  | quad u e b sg =>
    have hq : QOk u e b sg := hp
    have hv := quad_v hq t
    generalize Spot.v t (.quad u e b sg) = V at *
    have rb := rs_bd hq.e1 hq.e2
    have u1 := ibd (x := u) 11 hq.u1 hq.u2
    have n11 : (((11 : Nat) : Int) : R) = 11 := rfl
    rw [n11] at u1
    have b1 : (1 : R) ≤ (b : R) := int_le.mpr hq.b1
    have sb : -6 ≤ (sg : R) * rs e ∧ (sg : R) * rs e ≤ 6 := by
      rcases sg_r hq.sg with k | k <;> rw [k] <;> constructor <;> grind
    constructor
    · by_cases c : -64 < V
      · exact c
      · have := mul_nn (show 0 ≤ (b : R) - 1 by grind) (show 0 ≤ -V - 64 by grind)
        grind
    · by_cases c : V < 64
      · exact c
      · have := mul_nn (show 0 ≤ (b : R) - 1 by grind) (show 0 ≤ V - 64 by grind)
        grind
theorem good_start {t : R} {m : Int} (ht : t * t * t = (m : R)) (h0 : 0 < t) {p : Spot} (hp : p.ok m) : Good (p.v t) ⟨-64, 64, 1⟩ 0 := by
  have b := v_bd ht h0 hp
  have n1 : ((-64 : Int) : R) = -64 := by
    rw [show (-64 : Int) = -(64 : Int) from rfl, int_neg]
    rfl
  have n2 : ((64 : Int) : R) = 64 := rfl
  have n3 : ((1 : Int) : R) = 1 := rfl
  refine ⟨rfl, rfl, by decide, by decide, ?_, ?_⟩
  · show ((-64 : Int) : R) < ((1 : Int) : R) * p.v t
    rw [n1, n3]
    grind
  · show ((1 : Int) : R) * p.v t ≤ ((64 : Int) : R)
    rw [n2, n3]
    grind
theorem span_whl {t : R} {m : Int} (n : Nat) (ht : t * t * t = (m : R)) (h0 : 0 < t) {L : List Spot} (hA : Apart t m L) {p : Spot} (hp : p ∈ L) (ob : List OE) (o2 o4 : Option (Bool × D)) : ∀ (j k : Nat) (s : Spn), Good (p.v t) s k → k + j = 43 → ∃ k' s', Good (p.v t) s' k' ∧ k' ≤ 43 ∧ Nin t L p s' ∧
    whl ((ev (tab C87.t.lw (n + 4)) (.not (.call 35 (.acons (.var 0) (.acons (.var 1) (.acons (.var 3) (.anil))))))).T) (evS (tab C87.t.lw (n + 4)) (.seq (.asg 3 (.call 34 (.acons (.var 3) (.acons (.var 1) (.anil)))))
    (.nil))) ⟨[some (false, .lst (L.map sd)), some (false, sd p), o2, some (false, s.d), o4], ob⟩ = some (.nx ⟨[some (false, .lst (L.map sd)), some (false, sd p), o2, some (false, s'.d), o4], ob⟩) := by
  intro j
  induction j with
  | zero =>
    intro k s g hk
    have hn := nin_at hA hp g (by omega)
    have e := alone_ok n L hA.ok p s g (by omega) ob
    have ha := (al_spec ht hA.ok (g.bd (by omega)).1).mpr hn
    exact ⟨k, s, g, by omega, hn, whl_end (by simp [e, ha])⟩
  | succ j ih =>
    intro k s g hk
    have e := alone_ok n L hA.ok p s g (by omega) ob
    have e2 := half_ok (t := t) n p (hA.ok p hp) s g (by omega) ob
    by_cases ha : alB L p s = true
    · exact ⟨k, s, g, by omega, (al_spec ht hA.ok (g.bd (by omega)).1).mp ha, whl_end (by simp [e, ha])⟩
    · obtain ⟨k', s', g', h1, h2, h3⟩ := ih (k + 1) (half p s) (half_good ht (hA.ok p hp) g) (by omega)
      exact ⟨k', s', g', h1, h2, whl_turn (s1 := ⟨[some (false, .lst (L.map sd)), some (false, sd p), o2, some (false, s.d), o4], ob⟩) (by simp [e, ha]) (by simp [e2]) h3⟩
theorem for_half {t : R} {m : Int} (n : Nat) (ht : t * t * t = (m : R)) {L : List Spot} {p : Spot} (hp : p.ok m) (ob : List OE) (o0 o2 : Option (Bool × D)) : ∀ (l : List Int) (s : Spn) (k : Nat) (o4 : Option (Bool × D)), Good (p.v t) s k → Nin t L p s → k + l.length ≤ 51 → ∃ s' o4', Good (p.v t) s' (k + l.length) ∧ Nin t L p s' ∧
    forR (fun d s => (setD 4 (false, d) s).bind (evS (tab C87.t.lw (n + 4)) (.seq (.asg 3 (.call 34 (.acons (.var 3) (.acons (.var 1) (.anil)))))
    (.nil)))) (intl l) ⟨[o0, some (false, sd p), o2, some (false, s.d), o4], ob⟩ = some (.nx ⟨[o0, some (false, sd p), o2, some (false, s'.d), o4'], ob⟩)
  | [], s, k, o4, g, hn, hk => ⟨s, o4, g, hn, rfl⟩
  | x :: r, s, k, o4, g, hn, hk => by
    have hk2 : k + (r.length + 1) ≤ 51 := hk
    obtain ⟨s', o4', g', hn', e⟩ := for_half n ht hp ob o0 o2 r (half p s) (k + 1) (some (false, .int x)) (half_good ht hp g) (nin_half (by have := g.w; omega) hn) (by omega)
    refine ⟨s', o4', by rw [show k + (x :: r).length = k + 1 + r.length by simp; omega]; exact g', hn', ?_⟩
    have e2 := half_ok (t := t) n p hp s g (by omega) ob
    have e1 : intl (x :: r) = .int x :: intl r := rfl
    rw [e1, forR_cons]
    have step : (setD 4 (false, .int x) ⟨[o0, some (false, sd p), o2, some (false, s.d), o4], ob⟩).bind (evS (tab C87.t.lw (n + 4)) (.seq (.asg 3 (.call 34 (.acons (.var 3) (.acons (.var 1) (.anil)))))
      (.nil))) = some (.nx ⟨[o0, some (false, sd p), o2, some (false, (half p s).d), some (false, .int x)], ob⟩) := by simp [e2]
    rw [step, thenO_nx]
    exact e
theorem span_ok {t : R} {m : Int} (n : Nat) (ht : t * t * t = (m : R)) (h0 : 0 < t) {L : List Spot} (hA : Apart t m L) {p : Spot} (hp : p ∈ L) (more : Int) (h1 : 0 ≤ more) (h2 : more < 9) (ob : List OE) : ∃ s k, Good (p.v t) s k ∧ k ≤ 51 ∧ Nin t L p s ∧ S__law_span (n + 4) [.lst (L.map sd), sd p, .int more] ob = some (.ret false s.d ob) := by
  rw [E__law_span]
  unfold b__law_span
  obtain ⟨k, s, g, hk, hn, e⟩ := span_whl n ht h0 hA hp ob (some (false, .int more)) none 43 0 ⟨-64, 64, 1⟩ (good_start ht h0 (hA.ok p hp)) rfl
  obtain ⟨j, rfl⟩ : ∃ j : Nat, more = (j : Int) := ⟨more.toNat, by omega⟩
  have hlen : (rngI 0 (j : Int)).length = j := rng0_len ..
  obtain ⟨s', o4, g', hn', e2⟩ := for_half n ht (hA.ok p hp) ob (some (false, .lst (L.map sd))) (some (false, .int (j : Int))) (rngI 0 (j : Int)) s k none g hn (by rw [hlen]; omega)
  rw [hlen] at g'
  refine ⟨s', k + j, g', by omega, hn', ?_⟩
  have hok : rng1D (.int (j : Int)) = some (intl (rngI 0 (j : Int))) := rng1_nat (by omega)
  refine def_rt (s := ⟨[some (false, .lst (L.map sd)), some (false, sd p), some (false, .int (j : Int)), none, o4], ob⟩) ?_ rfl
  refine seq_nx (s1 := ⟨[some (false, .lst (L.map sd)), some (false, sd p), some (false, .int (j : Int)), some (false, (⟨-64, 64, 1⟩ : Spn).d), none], ob⟩) (by simp [Spn.d]) ?_
  refine seq_nx (s1 := ⟨[some (false, .lst (L.map sd)), some (false, sd p), some (false, .int (j : Int)), some (false, s.d), none], ob⟩) (by rw [s_whl]; exact e) ?_
  refine seq_nx (s1 := ⟨[some (false, .lst (L.map sd)), some (false, sd p), some (false, .int (j : Int)), some (false, s'.d), o4], ob⟩) (by
    simp [hok]
    exact e2) ?_
  exact seq_rt (by simp)
end P87
set_option Elab.async false
set_option linter.all false
set_option maxRecDepth 100000
set_option maxHeartbeats 4000000
/-! the law's division with a factor -/
namespace P87
open PySem L2 Ev C87 Pd
abbrev stL (P Q : List Int) (f : Int) (o3 : Option (Bool × D)) (r : List Int) (o5 : Option (Bool × D)) (u : List Int) (o7 : Option (Bool × D)) (ob : List OE) : Stt :=
  ⟨[some (false, pl P), some (false, pl Q), some (false, .int f), o3, some (true, pl r), o5, some (true, pl u), o7], ob⟩
theorem ldiv_inner (G : Tab) (P Q : List Int) (f m : Int) (k : Nat) (u : List Int) (hu : u[k]? = some m) (ob : List OE) : ∀ (cs : List Int) (i : Nat) (r : List Int) (o5 o7 : Option (Bool × D)), (∀ c ∈ cs, IntMulOk m c) → k + i + cs.length ≤ r.length → ∃ o5' o7',
    forR (fun d s => (match d with
    | .tup l => (setAll [7, 5] l s).bind (evS G (.seq (.sub 4 (.bin .Add (.var 3) (.var 7)) (.bin .Sub (.idx (.var 4) (.bin .Add (.var 3) (.var 7))) (.bin .Mult (.idx (.var 6) (.var 3)) (.var 5))))
    (.nil)))
    | _ => none)) (((List.range' i cs.length).zip (intl cs)).map fun p => .tup [.int (p.1 : Nat), p.2]) (stL P Q f (some (false, .int k)) r o5 u o7 ob) =
     some (.nx (stL P Q f (some (false, .int k)) (subAt m (k + i) cs r) o5' u o7' ob))
  | [], _, _, o5, o7, _, _ => ⟨o5, o7, rfl⟩
  | c :: cs, i, r, o5, o7, h, hl => by
    have hc := h c (List.mem_cons_self ..)
    have hl2 : k + i + (cs.length + 1) ≤ r.length := hl
    obtain ⟨o5', o7', e⟩ := ldiv_inner G P Q f m k u hu ob cs (i + 1) (r.set (k + i) ((r[k + i]?).getD 0 - m * c)) (some (false, .int c)) (some (false, .int i)) (fun x hx => h x (List.mem_cons_of_mem _ hx)) (by simp; omega)
    refine ⟨o5', o7', ?_⟩
    have e1 : ((List.range' i (c :: cs).length).zip (intl (c :: cs))).map (fun p : Nat × D => D.tup [.int (p.1 : Nat), p.2]) = .tup [.int i, .int c] :: (((List.range' (i + 1) cs.length).zip (intl cs)).map fun p => .tup [.int (p.1 : Nat), p.2]) := by
      rw [List.length_cons, List.range'_succ]
      rfl
    rw [e1, forR_cons]
    have hk : (k : Int) + i = ((k + i : Nat) : Int) := by omega
    have hr : r[k + i]? = some r[k + i] := List.getElem?_eq_getElem (by omega)
    have hx : k + i < r.length := by omega
    have step : (setAll [7, 5] [.int i, .int c] (stL P Q f (some (false, .int k)) r o5 u o7 ob)).bind (evS G (.seq (.sub 4 (.bin .Add (.var 3) (.var 7)) (.bin .Sub (.idx (.var 4) (.bin .Add (.var 3) (.var 7))) (.bin .Mult (.idx (.var 6) (.var 3)) (.var 5))))
      (.nil))) = some (.nx (stL P Q f (some (false, .int k)) (r.set (k + i) ((r[k + i]?).getD 0 - m * c)) (some (false, .int c)) u (some (false, .int i)) ob)) := by
      simp [-Int.natCast_add, hk, atI_nat, get_intl, hr, hu, hc, len_intl, ixN_nat hx, set_intl]
    show thenO ((setAll [7, 5] [.int i, .int c] (stL P Q f (some (false, .int k)) r o5 u o7 ob)).bind _) _ = _
    rw [step, thenO_nx, show k + (i + 1) = k + i + 1 by omega] at *
    exact e
theorem ldiv_outer (G : Tab) (P Q : List Int) (f l : Int) (ob : List OE) (Y : Nat) (hY : btl Y Q) (hY2 : Y ≤ 8900) (hl : Q.getLast? = some l) (h0 : l ≠ 0) (d : Nat) (hdq : Q.length = d + 1) (hdl : ic Q d = l) : ∀ (n B : Nat) (k : Option (Bool × D)) (r u : List Int) (o5 o7 : Option (Bool × D)), n + d ≤ r.length → n ≤ u.length → B + n * (Y + 1) ≤ 100000 → Sc l n B r → ∃ k' o5' o7',
    forR (fun x s => (setD 3 (false, x) s).bind (evS G (.seq (.sub 6 (.var 3) (.bin .FloorDiv (.idx (.var 4) (.bin .Sub (.bin .Add (.var 3) (.b1 .len (.var 1))) (.con (.int 1)))) (.idx (.var 1) (.neg (.con (.int 1))))))
    (.seq (.fort [7, 5] (.enm (.var 1)) (.seq (.sub 4 (.bin .Add (.var 3) (.var 7)) (.bin .Sub (.idx (.var 4) (.bin .Add (.var 3) (.var 7))) (.bin .Mult (.idx (.var 6) (.var 3)) (.var 5))))
    (.nil)))
    (.nil))))) (intl (rngI 0 (n : Int)).reverse) (stL P Q f k r o5 u o7 ob) = some (.nx (stL P Q f k' (divLoop Q l n r) o5' (quoLoop Q l n r u) o7' ob))
  | 0, B, k, r, u, o5, o7, _, _, _, _ => ⟨k, o5, o7, rfl⟩
  | n + 1, B, k, r, u, o5, o7, h, hu, hB, hS => by
    have hlb : bt 8900 l := (hY l (List.mem_of_getLast? hl)).mono hY2
    have hk : r[n + d]? = some r[n + d] := List.getElem?_eq_getElem (by omega)
    have hs : divStep Q l n r = subAt (r[n + d].fdiv l) n Q r := by
      unfold divStep
      rw [hdq, Nat.add_sub_cancel, hk]
      rfl
    obtain ⟨s1, s2⟩ := sc_step (k := n) hdq hdl h0 hY (r := r) (by omega) hS
    have hic : ic r (n + d) = r[n + d] := by
      show (r[n + d]?).getD 0 = _
      rw [hk]
      rfl
    rw [hic] at s2
    have hB2 : B + Y + 1 + n * (Y + 1) ≤ 100000 := by rw [Nat.succ_mul] at hB; omega
    have hnY : n * Y ≤ n * (Y + 1) := Nat.mul_le_mul_left n (by omega)
    have hun : n < u.length := by omega
    obtain ⟨o5', o7', e1⟩ := ldiv_inner G P Q f (r[n + d].fdiv l) n (u.set n (r[n + d].fdiv l)) (by rw [List.getElem?_set_self hun]) ob Q 0 r o5 o7 (fun c hc => s2.mulOk (hY c hc) (by omega)) (by omega)
    obtain ⟨k', a5, a7, e2⟩ := ldiv_outer G P Q f l ob Y hY hY2 hl h0 d hdq hdl n (B + Y + 1) (some (false, .int n)) (divStep Q l n r) (u.set n (r[n + d].fdiv l)) o5' o7' (by rw [divStep_len]; omega) (by simp; omega) hB2 s1
    refine ⟨k', a5, a7, ?_⟩
    have hq : quoLoop Q l (n + 1) r u = quoLoop Q l n (divStep Q l n r) (u.set n (r[n + d].fdiv l)) := by
      show quoLoop Q l n (divStep Q l n r) (u.set n (((r[n + (Q.length - 1)]?).getD 0).fdiv l)) = _
      rw [hdq, Nat.add_sub_cancel, hk]
      rfl
    rw [hq]
    have er : intl (rngI 0 ((n + 1 : Nat) : Int)).reverse = .int n :: intl (rngI 0 (n : Int)).reverse := by
      rw [show ((n + 1 : Nat) : Int) = (n : Int) + 1 by omega, rng0_succ]
      simp [intl]
    rw [er, forR_cons]
    have hn : (n : Int) + (Q.length : Int) - 1 = ((n + d : Nat) : Int) := by omega
    have hen : enumD (intl Q) = ((List.range' 0 Q.length).zip (intl Q)).map fun p => .tup [.int (p.1 : Nat), p.2] := by
      unfold enumD
      rw [len_intl, List.range_eq_range']
    have hli : atI (intl Q) (-1) = some (.int l) := by
      rw [atI_last, show intl Q = Q.map .int from rfl, List.getLast?_map, hl]
      rfl
    rw [show n + 0 = n from rfl, ← hs] at e1
    have step : (setD 3 (false, .int n) (stL P Q f k r o5 u o7 ob)).bind (evS G (.seq (.sub 6 (.var 3) (.bin .FloorDiv (.idx (.var 4) (.bin .Sub (.bin .Add (.var 3) (.b1 .len (.var 1))) (.con (.int 1)))) (.idx (.var 1) (.neg (.con (.int 1))))))
      (.seq (.fort [7, 5] (.enm (.var 1)) (.seq (.sub 4 (.bin .Add (.var 3) (.var 7)) (.bin .Sub (.idx (.var 4) (.bin .Add (.var 3) (.var 7))) (.bin .Mult (.idx (.var 6) (.var 3)) (.var 5))))
      (.nil)))
      (.nil)))) = some (.nx (stL P Q f (some (false, .int n)) (divStep Q l n r) o5' (u.set n (r[n + d].fdiv l)) o7' ob)) := by
      refine seq_nx (s1 := stL P Q f (some (false, .int n)) r o5 (u.set n (r[n + d].fdiv l)) o7 ob) (by
        simp [-Int.natCast_add, hn, atI_nat, get_intl, hk, hli, h0, bt.divOk hlb, len_intl, ixN_nat hun, set_intl]) ?_
      refine seq_nx (s1 := stL P Q f (some (false, .int n)) (divStep Q l n r) o5' (u.set n (r[n + d].fdiv l)) o7' ob) (by
        simp [hen]
        exact e1) (by simp)
    rw [step, thenO_nx]
    exact e2
theorem lfactor_loop (G : Tab) (P Q : List Int) (l : Int) (ob : List OE) (hl : Q.getLast? = some l) (Y : Nat) (hY : bt Y l) (hY2 : Y ≤ 8900) : ∀ (n : Nat), n * Y ≤ 100000 → ∃ o3,
    forR (fun x s => (setD 3 (false, x) s).bind (evS G (.seq (.asg 2 (.bin .Mult (.var 2) (.b1 .abs (.idx (.var 1) (.neg (.con (.int 1)))))))
    (.nil)))) (intl (rngI 0 (n : Int))) ⟨[some (false, pl P), some (false, pl Q), some (false, .int 1), none, none, none, none, none], ob⟩ =
     some (.nx ⟨[some (false, pl P), some (false, pl Q), some (false, .int (aint l ^ n)), o3, none, none, none, none], ob⟩)
  | 0, _ => ⟨none, by
    show forR _ [] _ = _
    simp⟩
  | n + 1, hn => by
    rw [Nat.succ_mul] at hn
    obtain ⟨o3, e⟩ := lfactor_loop G P Q l ob hl Y hY hY2 n (by omega)
    refine ⟨some (false, .int n), ?_⟩
    have hli : atI (intl Q) (-1) = some (.int l) := by
      rw [atI_last, show intl Q = Q.map .int from rfl, List.getLast?_map, hl]
      rfl
    have hm : IntMulOk (aint l ^ n) (if l < 0 then -l else l) := (hY.abs.pow n).mulOk hY.abs (by omega)
    rw [show ((n + 1 : Nat) : Int) = (n : Int) + 1 by omega, rng0_succ, intl_app, forR_app, e, thenO_nx]
    simp [intl] at hli ⊢
    simp [hli, hm, Int.pow_succ]
    rfl
theorem ldivided_ok (n : Nat) (p q : List Int) (l : Int) (ob : List OE) (X Y : Nat) (hX : btl X p) (hY : btl Y q) (hXY : X + (p.length - q.length + 1) * (Y + 1) ≤ 8900) (hl : q.getLast? = some l) (h0 : l ≠ 0) (hle : q.length ≤ p.length) (hsz : p.length < 1000000) : S__law_divided (n + 1) [pl p, pl q] ob = some (.ret false (.tup [.int (aint l ^ (p.length - q.length + 1)), pl (strip (quo p q l)), pl (strip (rst p q l))]) ob) := by
  obtain ⟨d, hd, hdl⟩ := last_ic hl
  obtain ⟨m, hm⟩ : ∃ m, p.length = m + q.length := ⟨p.length - q.length, by omega⟩
  have hr : p.length - q.length = m := by omega
  rw [hr] at hXY
  have hYm : (m + 1) * Y ≤ (m + 1) * (Y + 1) := Nat.mul_le_mul_left _ (by omega)
  have hY1 : Y + 1 ≤ (m + 1) * (Y + 1) := Nat.le_mul_of_pos_left _ (by omega)
  have hG1 : (p.length : Int) - q.length + 1 = ((m + 1 : Nat) : Int) := by omega
  have hok : rng1D (.int ((m + 1 : Nat) : Int)) = some (intl (rngI 0 ((m + 1 : Nat) : Int))) := rng1_nat (by omega)
  obtain ⟨o3, e1⟩ := lfactor_loop (tab t.lw (n + 1)) p q l ob hl Y (hY l (List.mem_of_getLast? hl)) (by omega) (m + 1) (by omega)
  have hfb : bt ((m + 1) * Y + 1) (aint l ^ (m + 1)) := (hY l (List.mem_of_getLast? hl)).abs.pow (m + 1)
  have hc1 : compR 5 (ev (tab t.lw (n + 1)) (.bin .Mult (.var 2) (.var 5))).E none (intl p) [] ⟨[some (false, pl p), some (false, pl q), some (false, .int (aint l ^ (m + 1))), o3, none, none, none, none], ob⟩ = some (.ok (intl (p.map (· * aint l ^ (m + 1)))) ⟨[some (false, pl p), some (false, pl q), some (false, .int (aint l ^ (m + 1))), o3, none, none, none, none], ob⟩) := by
    rw [compR_int (fun x => .int (aint l ^ (m + 1) * x)) rfl (fun x hx => ⟨false, by simp [hfb.mulOk (hX x hx) (by omega)]⟩) (by simp; omega)]
    simp [intl, Int.mul_comm]
  have hc2 : ∀ r : D, compR 3 (ev (tab t.lw (n + 1)) (.con (.int 0))).E none (intl (rngI 0 ((m + 1 : Nat) : Int))) [] ⟨[some (false, pl p), some (false, pl q), some (false, .int (aint l ^ (m + 1))), none, some (true, r), none, none, none], ob⟩ = some (.ok (intl (List.replicate (m + 1) 0)) ⟨[some (false, pl p), some (false, pl q), some (false, .int (aint l ^ (m + 1))), none, some (true, r), none, none, none], ob⟩) := fun r => by
    rw [compR_int (fun x => .int 0) rfl (fun x hx => ⟨false, by simp⟩) (by rw [rng0_len]; simp; omega)]
    have hr := rng0_len (m + 1)
    simp only [List.nil_append, List.map_const', hr]
    simp [intl]
  obtain ⟨k', o5, o7, e2⟩ := ldiv_outer (tab t.lw (n + 1)) p q (aint l ^ (m + 1)) l ob Y hY (by omega) hl h0 d hd hdl (m + 1) X none (p.map (· * aint l ^ (m + 1))) (List.replicate (m + 1) 0) none none (by simp; omega) (by simp) (by omega) (sc_start hX _)
  rw [E__law_divided]
  unfold b__law_divided rst quo
  rw [hr]
  obtain ⟨u', hu'⟩ : ∃ u', quoLoop q l (m + 1) (p.map (· * aint l ^ (m + 1))) (List.replicate (m + 1) 0) = u' := ⟨_, rfl⟩
  obtain ⟨r', hr'⟩ : ∃ r', divLoop q l (m + 1) (p.map (· * aint l ^ (m + 1))) = r' := ⟨_, rfl⟩
  have hul : u'.length = m + 1 := by rw [← hu', quoLoop_len]; simp
  rw [hu', hr'] at e2 ⊢
  refine def_rt (s := ⟨[some (false, pl p), some (false, pl q), some (false, .int (aint l ^ (m + 1))), k', some (false, pl r'), o5, some (false, pl u'), o7], ob⟩) ?_ rfl
  refine seq_nx (s1 := ⟨[some (false, pl p), some (false, pl q), some (false, .int 1), none, none, none, none, none], ob⟩) (by simp) ?_
  refine seq_nx (s1 := ⟨[some (false, pl p), some (false, pl q), some (false, .int (aint l ^ (m + 1))), o3, none, none, none, none], ob⟩) (by
    have hI : (ev (tab t.lw (n + 1)) (.rng1 (.bin .Add (.bin .Sub (.b1 .len (.var 0)) (.b1 .len (.var 1))) (.con (.int 1))))).I ⟨[some (false, pl p), some (false, pl q), some (false, .int 1), none, none, none, none, none], ob⟩ = some (.ok (intl (rngI 0 ((m + 1 : Nat) : Int))) ⟨[some (false, pl p), some (false, pl q), some (false, .int 1), none, none, none, none, none], ob⟩) := by
      simp [-Int.natCast_add, len_intl, hG1, hok]
    rw [s_forn, hI, obnd_ok]
    exact e1) ?_
  refine seq_nx (s1 := ⟨[some (false, pl p), some (false, pl q), some (false, .int (aint l ^ (m + 1))), o3, some (true, pl (p.map (· * aint l ^ (m + 1)))), none, none, none], ob⟩) (by simp [hc1]) ?_
  refine seq_nx (s1 := stL p q (aint l ^ (m + 1)) none (p.map (· * aint l ^ (m + 1))) none (List.replicate (m + 1) 0) none ob) (by simp [-Int.natCast_add, len_intl, hG1, hok, hc2]) ?_
  refine seq_nx (s1 := stL p q (aint l ^ (m + 1)) k' r' o5 u' o7 ob) (by
    have hI : (ev (tab t.lw (n + 1)) (.rvr1 (.b1 .len (.var 6)))).I (stL p q (aint l ^ (m + 1)) none (p.map (· * aint l ^ (m + 1))) none (List.replicate (m + 1) 0) none ob) = some (.ok (intl (rngI 0 ((m + 1 : Nat) : Int)).reverse) (stL p q (aint l ^ (m + 1)) none (p.map (· * aint l ^ (m + 1))) none (List.replicate (m + 1) 0) none ob)) := by
      simp [-Int.natCast_add, len_intl, hok, intl_rev]
    rw [s_forn, hI, obnd_ok]
    exact e2) ?_
  exact seq_rt (by simp)
end P87
set_option Elab.async false
set_option linter.all false
set_option maxRecDepth 100000
set_option maxHeartbeats 4000000
/-! a root's paper: the remainders' row and its links -/
namespace P87
open PySem L2 Ev C87 Pd
def ldc (B : List Int) : Int := (B.getLast?).getD 0
def rem (A B : List Int) : List Int := strip (rst A B (ldc B))
def nxt (A B : List Int) : List Int := (shr (rem A B)).map fun x => 0 - x
def lnk (A B : List Int) : Lk3 := ⟨aint (ldc B) ^ (A.length - B.length + 1), strip (quo A B (ldc B)), gc (rem A B)⟩
/-- the row and the links, with n turns at most -/
def pap : Nat → List Int → List Int → List (List Int) × List Lk3
  | 0, A, B => ([A, B], [])
  | n + 1, A, B => if rem A B = [] then ([A, B], []) else (A :: (pap n B (nxt A B)).1, lnk A B :: (pap n B (nxt A B)).2)
/-- few enough bits on all roads -/
def fits : Nat → Nat → Nat → Nat → Nat → Bool
  | 0, _, _, _, _ => true
  | n + 1, a, b, X, Y => decide (X + (a - b + 1) * (Y + 1) ≤ 8900) && (List.range b).all fun c => decide (c = 0) || fits n b c Y (X + (a - b + 1) * (Y + 1))
theorem fits_1 {n a b X Y : Nat} (h : fits (n + 1) a b X Y = true) : X + (a - b + 1) * (Y + 1) ≤ 8900 := by
  simp only [fits, Bool.and_eq_true, decide_eq_true_eq] at h
  exact h.1
theorem fits_2 {n a b X Y c : Nat} (h : fits (n + 1) a b X Y = true) (hc : c < b) (h0 : 0 < c) : fits n b c Y (X + (a - b + 1) * (Y + 1)) = true := by
  simp only [fits, Bool.and_eq_true, decide_eq_true_eq, List.all_eq_true, Bool.or_eq_true] at h
  rcases h.2 c (List.mem_range.mpr hc) with z | z
  · omega
  · exact z
theorem ldc_ok {B : List Int} (hn : Nz B) (h : B ≠ []) : B.getLast? = some (ldc B) ∧ ldc B ≠ 0 := by
  obtain ⟨l, hl, l0⟩ := nz_last hn h
  unfold ldc
  rw [hl]
  exact ⟨rfl, l0⟩
structure Two (A B : List Int) : Prop where
  nA : Nz A
  nB : Nz B
  b0 : B ≠ []
  lt : B.length < A.length
theorem Two.rem_len {A B : List Int} (h : Two A B) : (rem A B).length < B.length := rst_len (ldc_ok h.nB h.b0).1 (ldc_ok h.nB h.b0).2 (by have := h.lt; omega)
theorem nxt_len (A B : List Int) : (nxt A B).length = (rem A B).length := by
  unfold nxt
  rw [List.length_map, shr_len]
theorem ic_opp (p : List Int) (k : Nat) : ic (p.map fun x => 0 - x) k = -ic p k := by
  show ((p.map fun x => 0 - x)[k]?).getD 0 = -(p[k]?).getD 0
  rw [List.getElem?_map]
  cases p[k]? with
  | none => rfl
  | some v => show 0 - v = -v; omega
theorem opp_nz {p : List Int} (h : Nz p) : Nz (p.map fun x => 0 - x) := by
  rcases h with rfl | ⟨n, h1, h2⟩
  · exact .inl rfl
  · exact .inr ⟨n, by rw [List.length_map, h1], by rw [ic_opp]; omega⟩
theorem Two.next {A B : List Int} (h : Two A B) (hr : rem A B ≠ []) : Two B (nxt A B) := by
  refine ⟨h.nB, opp_nz (shr_nz (nz_strip _) hr), fun z => hr ?_, by rw [nxt_len]; exact h.rem_len⟩
  have := nxt_len A B
  rw [z] at this
  exact List.eq_nil_of_length_eq_zero this.symm
theorem nxt_bt {A B : List Int} (h : Two A B) (hr : rem A B ≠ []) {X Y : Nat} (hX : btl X A) (hY : btl Y B) : btl (X + (A.length - B.length + 1) * (Y + 1)) (nxt A B) := by
  have hl := ldc_ok h.nB h.b0
  have := shr_bt (nz_strip _) hr ((rst_bt hl.1 hl.2 (by have := h.lt; omega) hX hY).strip)
  refine btl_of_ic fun i => ?_
  unfold nxt
  rw [ic_opp]
  exact (this.ic i).neg
/-! ### the law's paper -/
theorem atI_m2 {α : Type} (l : List α) (a b : α) : atI (l ++ [a, b]) (-2) = some a := by
  have h1 := atI_nat (l ++ [a, b]) l.length
  rw [List.getElem?_append_right (Nat.le_refl _), Nat.sub_self] at h1
  have e1 : ixN (l.length + 2) (-2) = some l.length := by
    unfold ixN
    rw [if_neg (by omega), if_pos (by omega)]
    exact congrArg some (show ((-2 : Int) + ((l.length + 2 : Nat) : Int)).toNat = l.length by omega)
  have e2 : ixN (l.length + 2) (l.length : Int) = some l.length := ixN_nat (by omega)
  unfold atI at h1 ⊢
  simp only [List.length_append, List.length_cons, List.length_nil] at h1 ⊢
  rw [e1]
  rw [e2] at h1
  exact h1
theorem atI_m1 {α : Type} (l : List α) (a b : α) : atI (l ++ [a, b]) (-1) = some b := by
  rw [atI_last]
  simp
def tol (A B : List Int) : D := .tup [.int (aint (ldc B) ^ (A.length - B.length + 1)), pl (strip (quo A B (ldc B))), pl (rem A B)]
theorem ldiv2 (n : Nat) {A B : List Int} (h : Two A B) {k X Y : Nat} (hf : fits (k + 1) A.length B.length X Y = true) (hX : btl X A) (hY : btl Y B) (hl : A.length < 1000000) (ob : List OE) : S__law_divided (n + 1) [pl A, pl B] ob = some (.ret false (tol A B) ob) := by
  have h1 := ldc_ok h.nB h.b0
  exact ldivided_ok n A B (ldc B) ob X Y hX hY (fits_1 hf) h1.1 h1.2 (by have := h.lt; omega) hl
theorem pap_whl (n : Nat) (p0 p1 : D) (ob : List OE) : ∀ (k : Nat) (pre : List (List Int)) (A B : List Int) (lks : List Lk3) (o5 : Option (Bool × D)) (X Y : Nat), Two A B → B.length ≤ k → fits (k + 1) A.length B.length X Y = true → btl X A → btl Y B → A.length < 1000000 → pre.length + k < 1000 → lks.length + k < 1000 → ∃ T o5',
    whl ((ev (tab t.lw (n + 2)) (.cmp .Gt (.b1 .len (.idx (.var 4) (.con (.int 2)))) (.con (.int 0)))).T) (evS (tab t.lw (n + 2)) (.seq (.asg 5 (.call 31 (.acons (.idx (.var 4) (.con (.int 2))) (.anil))))
    (.seq (.ex (.app 3 (.tup (.acons (.idx (.var 4) (.con (.int 0))) (.acons (.idx (.var 4) (.con (.int 1))) (.acons (.var 5) (.anil)))))))
    (.seq (.ex (.app 2 (.comp (.bin .Sub (.con (.int 0)) (.bin .FloorDiv (.var 6) (.var 5))) 6 (.idx (.var 4) (.con (.int 2))) (.anil))))
    (.seq (.asg 4 (.call 30 (.acons (.idx (.var 2) (.neg (.con (.int 2)))) (.acons (.idx (.var 2) (.neg (.con (.int 1)))) (.anil)))))
    (.nil)))))) ⟨[some (false, p0), some (false, p1), some (true, rw_ (pre ++ [A, B])), some (true, .lst (lks.map Lk3.D)), some (false, tol A B), o5, none], ob⟩ =
      some (.nx ⟨[some (false, p0), some (false, p1), some (true, rw_ (pre ++ (pap k A B).1)), some (true, .lst ((lks ++ (pap k A B).2).map Lk3.D)), some (false, T), o5', none], ob⟩)
  | 0, pre, A, B, lks, o5, X, Y, h, hk, _, _, _, _, _, _ => by
    exact absurd (List.eq_nil_of_length_eq_zero (by omega)) h.b0
  | k + 1, pre, A, B, lks, o5, X, Y, h, hk, hf, hX, hY, hl, hp, hq => by
    by_cases hr : rem A B = []
    · refine ⟨tol A B, o5, ?_⟩
      have e : pap (k + 1) A B = ([A, B], []) := by
        unfold pap
        exact if_pos hr
      rw [e]
      simp only [List.append_nil]
      exact whl_end (by simp [tol, hr, len_intl])
    · have e : pap (k + 1) A B = (A :: (pap k B (nxt A B)).1, lnk A B :: (pap k B (nxt A B)).2) := by
        conv => lhs; unfold pap
        exact if_neg hr
      have h2 := h.next hr
      have hrl := h.rem_len
      have hlt := h.lt
      have hb := nxt_bt h hr hX hY
      have hf2 := fits_2 hf (c := (nxt A B).length) (by rw [nxt_len]; exact hrl) (by rw [nxt_len]; exact List.length_pos_iff.mpr hr)
      obtain ⟨T, o5', ee⟩ := pap_whl n p0 p1 ob k (pre ++ [A]) B (nxt A B) (lks ++ [lnk A B]) (some (false, .int (gc (rem A B)))) Y _ h2 (by rw [nxt_len]; omega) hf2 hY hb (by omega) (by simp; omega) (by simp; omega)
      refine ⟨T, o5', ?_⟩
      have hpos : 0 < (rem A B).length := List.length_pos_iff.mpr hr
      have gb : bt 8900 (gc (rem A B) : Int) := (gc_bt (nz_strip _) hr ((rst_bt (ldc_ok h.nB h.b0).1 (ldc_ok h.nB h.b0).2 (by omega) hX hY).strip)).mono (fits_1 hf)
      have g0 := gc_pos (nz_strip (rst A B (ldc B))) hr
      have g0 : 0 < gc (rem A B) := g0
      have gz : ¬ ((gc (rem A B) : Int) = 0) := by omega
      have gn : ¬ (gc (rem A B) = 0) := by omega
      have l1 : lks.length < 16777216 := by omega
      have l2 : pre.length + 2 < 16777216 := by omega
      have l2' : pre.length < 16777214 := by omega
      have hc : ∀ (rw lk : D), compR 6 (ev (tab t.lw (n + 2)) (.bin .Sub (.con (.int 0)) (.bin .FloorDiv (.var 6) (.var 5)))).E none (intl (rem A B)) [] ⟨[some (false, p0), some (false, p1), some (true, rw), some (true, lk), some (false, tol A B), some (false, .int (gc (rem A B))), none], ob⟩ = some (.ok (intl (nxt A B)) ⟨[some (false, p0), some (false, p1), some (true, rw), some (true, lk), some (false, tol A B), some (false, .int (gc (rem A B))), none], ob⟩) := fun rw lk => by
        rw [compR_int (fun x => .int (0 - x.fdiv (gc (rem A B)))) rfl (fun x hx => ⟨false, by simp [gz, gn, bt.divOk gb]⟩) (by simp; omega)]
        simp [intl, nxt, shr]
      have er : (pre ++ [A] ++ [B, nxt A B]).map pl = (pre ++ [A]).map pl ++ [pl B, pl (nxt A B)] := by simp
      have a2 : atI ((pre ++ [A] ++ [B, nxt A B]).map pl) (-2) = some (pl B) := by rw [er]; exact atI_m2 ..
      have a1 : atI ((pre ++ [A] ++ [B, nxt A B]).map pl) (-1) = some (pl (nxt A B)) := by rw [er]; exact atI_m1 ..
      have ed := ldiv2 n h2 hf2 hY hb (by omega) ob
      have es := lshared_ok n (rem A B) ob
      have ef : pre ++ (pap (k + 1) A B).1 = pre ++ [A] ++ (pap k B (nxt A B)).1 := by rw [e]; simp
      have eg : lks ++ (pap (k + 1) A B).2 = lks ++ [lnk A B] ++ (pap k B (nxt A B)).2 := by rw [e]; simp
      rw [ef, eg]
      refine whl_turn (s1 := ⟨[some (false, p0), some (false, p1), some (true, rw_ (pre ++ [A, B])), some (true, .lst (lks.map Lk3.D)), some (false, tol A B), o5, none], ob⟩) (by simp [tol, len_intl, hpos]) ?_ ee
      refine seq_nx (s1 := ⟨[some (false, p0), some (false, p1), some (true, rw_ (pre ++ [A, B])), some (true, .lst (lks.map Lk3.D)), some (false, tol A B), some (false, .int (gc (rem A B))), none], ob⟩) (by simp [tol]) ?_
      refine seq_nx (s1 := ⟨[some (false, p0), some (false, p1), some (true, rw_ (pre ++ [A, B])), some (true, .lst ((lks ++ [lnk A B]).map Lk3.D)), some (false, tol A B), some (false, .int (gc (rem A B))), none], ob⟩) (by simp [tol, Lk3.D, lnk, l1]) ?_
      refine seq_nx (s1 := ⟨[some (false, p0), some (false, p1), some (true, rw_ (pre ++ [A] ++ [B, nxt A B])), some (true, .lst ((lks ++ [lnk A B]).map Lk3.D)), some (false, tol A B), some (false, .int (gc (rem A B))), none], ob⟩) ?_ ?_
      · have h1 := hc (rw_ (pre ++ [A, B])) (.lst ((lks ++ [lnk A B]).map Lk3.D))
        simp [tol, l2, l2'] at h1 ⊢
        simp [h1, l2, l2']
      · refine seq_nx (s1 := ⟨[some (false, p0), some (false, p1), some (true, rw_ (pre ++ [A] ++ [B, nxt A B])), some (true, .lst ((lks ++ [lnk A B]).map Lk3.D)), some (false, tol B (nxt A B)), some (false, .int (gc (rem A B))), none], ob⟩) ?_ (by simp)
        simp only [List.map_append] at a1 a2
        simp at a1 a2
        simp [a1, a2, ed]
end P87
set_option Elab.async false
set_option linter.all false
set_option maxRecDepth 100000
set_option maxHeartbeats 4000000
/-! a root's paper from its polynomial -/
namespace P87
open PySem L2 Ev C87 Pd
/-- [k * x for k, x in enumerate(row)] -/
theorem compRT_k {is : List Nat} {ee : Stt → Option (O (Bool × D))} {s : Stt} (N : Nat) (hN : N < 1000000) : ∀ (cs : List Int) (k : Nat) (acc : List D), (∀ (j : Nat) (c : Int), j < N → ∃ s0 o, setAll is [.int j, .int c] s = some s0 ∧ ee s0 = some (.ok (o, .int (j * c)) s0) ∧ ({ s0 with sl := wipeS is s0.sl } : Stt) = s) → k + cs.length ≤ N → acc.length + cs.length ≤ 1000000 → compRT is ee none (enF k cs) acc s = some (.ok (acc ++ intl (slF k cs)) s)
  | [], k, acc, _, _, _ => by
    show some (O.ok acc s) = _
    simp [slF, intl]
  | c :: cs, k, acc, h, hk, hl => by
    have hl2 : acc.length + (cs.length + 1) ≤ 1000000 := hl
    have hk2 : k + (cs.length + 1) ≤ N := hk
    obtain ⟨s0, o, h1, h2, h3⟩ := h k c (by omega)
    rw [enF_cons]
    show (setAll is [.int k, .int c] s).bind (fun s0 => bnd (some (.ok true s0)) fun b s1 => if b = true then bnd (ee s1) fun r s2 => if acc.length < 16777216 then compRT is ee none (enF (k + 1) cs) (acc ++ [r.2]) { s2 with sl := wipeS is s2.sl } else none else compRT is ee none (enF (k + 1) cs) acc { s1 with sl := wipeS is s1.sl }) = _
    rw [h1, Option.bind_some, bnd_ok, if_pos rfl, h2, bnd_ok, if_pos (by omega), h3]
    have := compRT_k N hN cs (k + 1) (acc ++ [.int (k * c)]) h (by omega) (by simp; omega)
    exact Eq.trans this (by simp [slF, intl])
theorem slp_slF (p : List Int) (h : p ≠ []) : (slF 0 p).drop 1 = slp p := by
  cases p with
  | nil => exact absurd rfl h
  | cons c r => rfl
theorem slF_len' (k : Int) (p : List Int) : (slF k p).length = p.length := slF_len p k
theorem cut_1 (l : List D) : cut l (some 1) none = l.drop 1 := by
  unfold cut
  cases l with
  | nil => rfl
  | cons a r =>
    have e1 : HT.sIx (a :: r).length 0 (some 1) = 1 := by
      have := HT.sIx_nat (a :: r).length 0 1
      rw [List.length_cons] at this ⊢
      rw [Nat.min_eq_left (by omega)] at this
      exact this
    have e2 : HT.sIx (a :: r).length (a :: r).length none = (a :: r).length := rfl
    rw [e1, e2]
    simp
theorem intl_drop (p : List Int) (n : Nat) : (intl p).drop n = intl (p.drop n) := by simp [intl, List.map_drop]
theorem paper_from_ok (n : Nat) {A B : List Int} (h : Two A B) {X Y : Nat} (hf : fits (B.length + 1) A.length B.length X Y = true) (hX : btl X A) (hY : btl Y B) (hl : A.length < 100) (ob : List OE) : S__law_paper_from (n + 2) [pl A, pl B] ob = some (.ret false (.tup [rw_ (pap B.length A B).1, .lst ((pap B.length A B).2.map Lk3.D)]) ob) := by
  rw [E__law_paper_from]
  unfold b__law_paper_from
  have hlt := h.lt
  obtain ⟨T, o5, e⟩ := pap_whl n (pl A) (pl B) ob B.length [] A B [] none X Y h (Nat.le_refl _) hf hX hY (by omega) (by simp; omega) (by simp; omega)
  have ed := ldiv2 n h hf hX hY (by omega) ob
  refine def_rt (s := ⟨[some (false, pl A), some (false, pl B), some (false, rw_ (pap B.length A B).1), some (false, .lst ((pap B.length A B).2.map Lk3.D)), some (false, T), o5, none], ob⟩) ?_ rfl
  refine seq_nx (s1 := ⟨[some (false, pl A), some (false, pl B), some (true, rw_ [A, B]), none, none, none, none], ob⟩) (by simp) ?_
  refine seq_nx (s1 := ⟨[some (false, pl A), some (false, pl B), some (true, rw_ [A, B]), some (true, .lst []), none, none, none], ob⟩) (by simp) ?_
  refine seq_nx (s1 := ⟨[some (false, pl A), some (false, pl B), some (true, rw_ [A, B]), some (true, .lst []), some (false, tol A B), none, none], ob⟩) (by simp [ed]) ?_
  refine seq_nx (s1 := ⟨[some (false, pl A), some (false, pl B), some (true, rw_ (pap B.length A B).1), some (true, .lst ((pap B.length A B).2.map Lk3.D)), some (false, T), o5, none], ob⟩) (by rw [s_whl]; exact e) ?_
  exact seq_rt (by simp)
theorem paper_ok (n : Nat) (A : List Int) (hA : A ≠ []) (h : Two A (shr (slp A))) {X Y : Nat} (hf : fits A.length A.length (A.length - 1) X Y = true) (hX : btl X A) (hS : btl Y (slp A)) (hS2 : Y ≤ 8900) (hl : A.length < 100) (ob : List OE) : S__law_paper (n + 3) [pl A] ob = some (.ret false (.tup [rw_ (pap (A.length - 1) A (shr (slp A))).1, .lst ((pap (A.length - 1) A (shr (slp A))).2.map Lk3.D)]) ob) := by
  rw [E__law_paper]
  unfold b__law_paper
  have l1 : (shr (slp A)).length = A.length - 1 := by rw [shr_len, slp_len]
  have l0 := List.length_pos_iff.mpr hA
  have nS : Nz (slp A) := slp_nz (h.nA)
  have sS0 : slp A ≠ [] := fun z => by
    have := h.b0
    rw [z] at this
    exact this rfl
  have e1 := lshrunk_ok (n + 1) (slp A) ob nS (hS.mono hS2) (by rw [slp_len]; omega)
  have e2 := paper_from_ok (n + 0) h (by rw [l1, show A.length - 1 + 1 = A.length by omega]; exact hf) hX (shr_bt nS sS0 hS) hl ob
  rw [l1] at e2
  have hc : compRT [1, 2] (ev (tab t.lw (n + 3)) (.bin .Mult (.var 1) (.var 2))).E none (enF 0 A) [] ⟨[some (false, pl A), none, none], ob⟩ = some (.ok (intl (slF 0 A)) ⟨[some (false, pl A), none, none], ob⟩) := by
    have := compRT_k (is := [1, 2]) (ee := (ev (tab t.lw (n + 3)) (.bin .Mult (.var 1) (.var 2))).E) (s := ⟨[some (false, pl A), none, none], ob⟩) 1000 (by omega) A 0 [] (fun j c hj => ⟨⟨[some (false, pl A), some (false, .int j), some (false, .int c)], ob⟩, false, rfl, by simp [show IntMulOk (j : Int) c from mulL ⟨by omega, by omega⟩], rfl⟩) (by omega) (by simp; omega)
    exact this
  have hen : enumD (intl A) = enF 0 A := enum_enF A
  have hd : cut (intl (slF 0 A)) (some 1) none = intl (slp A) := by rw [cut_1, intl_drop, slp_slF A hA]
  simp [hen, hc, wipeS, hd, e1, e2]
end P87
set_option Elab.async false
set_option linter.all false
set_option maxRecDepth 100000
set_option maxHeartbeats 4000000
/-! what a root's paper proves -/
namespace P87
open PySem L2 Ev C87 Pd Rl Qd
/-- a link holds -/
structure LkR (A B C : List Int) (l : Lk3) : Prop where
  f : 0 < l.f
  d : 0 < l.d
  e : ∀ x, (l.f : R) * ipv A x = ipv l.q x * ipv B x - (l.d : R) * ipv C x
def Rem : List (List Int) → List Lk3 → Prop
  | A :: B :: C :: r, l :: ls => LkR A B C l ∧ Rem (B :: C :: r) ls
  | [_, _], [] => True
  | _, _ => False
theorem rem_len2 : ∀ (row : List (List Int)) (ls : List Lk3), Rem row ls → ls.length + 2 = row.length
  | A :: B :: C :: r, l :: ls, h => by
    have := rem_len2 (B :: C :: r) ls h.2
    simp at this ⊢
    omega
  | [_, _], [], _ => rfl
theorem ipv_opp (x : R) : ∀ p : List Int, ipv (p.map fun x => 0 - x) x = -ipv p x
  | [] => by
    show (0 : R) = -0
    grind
  | c :: r => by
    rw [List.map_cons, ipv_cons, ipv_cons, ipv_opp x r, int_sub, int_zero]
    grind
theorem lt_tri (x : R) : x < 0 ∨ x = 0 ∨ 0 < x := by
  by_cases c : x < 0
  · exact .inl c
  · by_cases d : x = 0
    · exact .inr (.inl d)
    · exact .inr (.inr (by grind))
theorem aint_pos {l : Int} (h : l ≠ 0) : 0 < aint l := by
  unfold aint
  split <;> omega
theorem int_pos {x : Int} (h : 0 < x) : (0 : R) < (x : R) := by
  have := int_lt.mpr h
  rwa [int_zero] at this
theorem Two.lnk {A B : List Int} (h : Two A B) (hr : rem A B ≠ []) : LkR A B (nxt A B) (lnk A B) := by
  have hl := ldc_ok h.nB h.b0
  refine ⟨Int.pow_pos (aint_pos hl.2), by have := gc_pos (nz_strip (rst A B (ldc B))) hr; show (0 : Int) < ((gc (rem A B) : Nat) : Int); unfold rem; omega, fun x => ?_⟩
  have e1 := quo_ipv hl.1 (show B.length ≤ A.length by have := h.lt; omega) x
  have e2 := shr_ipv (nz_strip (rst A B (ldc B))) hr x
  show (((aint (ldc B) ^ (A.length - B.length + 1) : Int)) : R) * ipv A x = ipv (strip (quo A B (ldc B))) x * ipv B x - ((gc (rem A B) : Int) : R) * ipv (nxt A B) x
  unfold nxt
  rw [ipv_opp, ipv_strip]
  unfold rem
  rw [ipv_strip] at e2
  grind
theorem pap_hd : ∀ (k : Nat) (A B : List Int), ∃ r, (pap k A B).1 = A :: B :: r
  | 0, A, B => ⟨[], rfl⟩
  | k + 1, A, B => by
    unfold pap
    split
    · exact ⟨[], rfl⟩
    · obtain ⟨r, e⟩ := pap_hd k B (nxt A B)
      exact ⟨nxt A B :: r, by rw [e]⟩
theorem pap_rem : ∀ (k : Nat) (A B : List Int), Two A B → Rem (pap k A B).1 (pap k A B).2
  | 0, A, B, _ => trivial
  | k + 1, A, B, h => by
    unfold pap
    split
    · trivial
    · rename_i hr
      have ih := pap_rem k B (nxt A B) (h.next hr)
      obtain ⟨r, e⟩ := pap_hd k B (nxt A B)
      rw [e] at ih
      show Rem (A :: (pap k B (nxt A B)).1) (Lk3.mk _ _ _ :: _)
      rw [e]
      exact ⟨h.lnk hr, ih⟩
def Divs (G A : List Int) : Prop := ∃ W : List R, ∀ x, ipv A x = ipv G x * pv W x
theorem divs_up {A B C G : List Int} {l : Lk3} (h : LkR A B C l) (hb : Divs G B) (hc : Divs G C) : Divs G A := by
  obtain ⟨U, hU⟩ := hb
  obtain ⟨V, hV⟩ := hc
  have f0 := int_pos h.f
  have fi := mul_inv' (show (l.f : R) ≠ 0 by grind)
  refine ⟨psm (l.f : R)⁻¹ (padd (pmul (ri l.q) U) (psm (-(l.d : R)) V)), fun x => ?_⟩
  have e := h.e x
  rw [hU, hV] at e
  simp only [pv_psm, pv_padd, pv_pmul]
  have q : pv (ri l.q) x = ipv l.q x := rfl
  rw [q]
  generalize ipv l.q x = Q at *
  generalize pv U x = u at *
  generalize pv V x = v at *
  generalize ipv G x = g at *
  generalize ipv A x = a at *
  have : a = (l.f : R)⁻¹ * ((l.f : R) * a) := by grind
  rw [this, e]
  grind
theorem pap_end : ∀ (k : Nat) (A B : List Int), Two A B → B.length ≤ k → ∃ G, (pap k A B).1.getLast? = some G ∧ Nz G ∧ G ≠ [] ∧ Divs G A ∧ Divs G B
  | 0, A, B, h, hk => absurd (List.eq_nil_of_length_eq_zero (by omega)) h.b0
  | k + 1, A, B, h, hk => by
    unfold pap
    split
    · rename_i hr
      refine ⟨B, rfl, h.nB, h.b0, ?_, [1], fun x => by simp only [pv_cons, pv_nil]; grind⟩
      have hl := ldc_ok h.nB h.b0
      have f0 := int_pos (show (0 : Int) < aint (ldc B) ^ (A.length - B.length + 1) from Int.pow_pos (aint_pos hl.2))
      obtain ⟨F, hF⟩ : ∃ F, ((aint (ldc B) ^ (A.length - B.length + 1) : Int) : R) = F := ⟨_, rfl⟩
      rw [hF] at f0
      have fi := mul_inv' (show F ≠ 0 by grind)
      refine ⟨psm F⁻¹ (ri (quo A B (ldc B))), fun x => ?_⟩
      have e1 := quo_ipv hl.1 (show B.length ≤ A.length by have := h.lt; omega) x
      have e2 : ipv (rst A B (ldc B)) x = 0 := by
        rw [← ipv_strip]
        show ipv (rem A B) x = 0
        rw [hr]
        rfl
      rw [e2, hF] at e1
      rw [pv_psm]
      show _ = ipv B x * (F⁻¹ * ipv (quo A B (ldc B)) x)
      grind
    · rename_i hr
      obtain ⟨G, h1, h2, h3, h4, h5⟩ := pap_end k B (nxt A B) (h.next hr) (by rw [nxt_len]; have := h.rem_len; omega)
      refine ⟨G, ?_, h2, h3, divs_up (h.lnk hr) h4 h5, h4⟩
      obtain ⟨r, e⟩ := pap_hd k B (nxt A B)
      show (A :: (pap k B (nxt A B)).1).getLast? = some G
      rw [← h1, e]
      rfl
/-! ### papers, scaled -/
def mu (a : Int) (p : List Int) : List Int := p.map (· * a)
theorem ipv_mu (a : Int) (p : List Int) (x : R) : ipv (mu a p) x = ipv p x * a := ipv_map a x p
theorem mu_1 (p : List Int) : mu 1 p = p := by simp [mu]
structure Ppr (P : List Int) (a b : Int) (row : List (List Int)) (ls : List Lk3) : Prop where
  a0 : 0 < a
  b0 : 0 < b
  hd : ∃ r, row = mu a P :: mu b (shr (slp P)) :: r
  rm : Rem row ls
  last : ∃ G, row.getLast? = some G ∧ G.length = 1 ∧ Nz G
theorem pap_ppr {P : List Int} (h : Two P (shr (slp P))) (hc : Cop (ri P) (dl (ri P))) {k : Nat} (hk : (shr (slp P)).length ≤ k) : Ppr P 1 1 (pap k P (shr (slp P))).1 (pap k P (shr (slp P))).2 := by
  obtain ⟨r, e⟩ := pap_hd k P (shr (slp P))
  refine ⟨by omega, by omega, ⟨r, by rw [mu_1, mu_1]; exact e⟩, pap_rem k _ _ h, ?_⟩
  obtain ⟨G, h1, h2, h3, ⟨U, hU⟩, ⟨V, hV⟩⟩ := pap_end k _ _ h hk
  refine ⟨G, h1, ?_, h2⟩
  rcases h2 with h2 | ⟨n, h4, h5⟩
  · exact absurd h2 h3
  · have sS0 : slp P ≠ [] := fun z => by
      have := h.b0
      rw [z] at this
      exact this rfl
    have e2 := fun x => shr_ipv (slp_nz h.nA) sS0 x
    have := cop_unit (G := ri G) (A := U) (B := psm (((gc (slp P) : Nat) : Int) : R) V) (n := n) hc (fun x _ => hU x) (fun x _ => by
      rw [pv_dl, ← ipv_slp, ← e2, pv_psm]
      rw [hV]
      show _ = ipv G x * _
      grind) (by rw [ri_len, h4]) (by
      rw [coef_ri]
      exact int_ne.mpr h5)
    omega
def scR : List Int → List (List Int) → List (List Int)
  | s :: ss, A :: r => mu s A :: scR ss r
  | _, _ => []
def scL : List Int → List Lk3 → List Lk3
  | a :: b :: c :: ss, l :: ls => ⟨l.f * b * c, l.q.map (· * a * c), l.d * a * b⟩ :: scL (b :: c :: ss) ls
  | _, _ => []
theorem ipv_mu2 (a c : Int) (q : List Int) (x : R) : ipv (q.map (· * a * c)) x = ipv q x * a * c := by
  have : q.map (· * a * c) = mu c (mu a q) := by simp [mu]
  rw [this, ipv_mu, ipv_mu]
theorem rem_sc : ∀ (row : List (List Int)) (ls : List Lk3) (ss : List Int), Rem row ls → ss.length = row.length → (∀ s ∈ ss, 0 < s) → Rem (scR ss row) (scL ss ls)
  | A :: B :: C :: r, l :: ls, a :: b :: c :: ss, h, hl, hp => by
    have ih := rem_sc (B :: C :: r) ls (b :: c :: ss) h.2 (by simp at hl ⊢; omega) (fun s hs => hp s (List.mem_cons_of_mem _ hs))
    have pa := hp a (by simp)
    have pb := hp b (by simp)
    have pc := hp c (by simp)
    refine ⟨⟨Int.mul_pos (Int.mul_pos h.1.f pb) pc, Int.mul_pos (Int.mul_pos h.1.d pa) pb, fun x => ?_⟩, ih⟩
    have e := h.1.e x
    show ((l.f * b * c : Int) : R) * ipv (mu a A) x = ipv (l.q.map (· * a * c)) x * ipv (mu b B) x - ((l.d * a * b : Int) : R) * ipv (mu c C) x
    rw [ipv_mu, ipv_mu, ipv_mu, ipv_mu2, int_mul, int_mul, int_mul, int_mul]
    generalize ipv A x = u at *
    generalize ipv B x = v at *
    generalize ipv C x = w at *
    generalize ipv l.q x = q at *
    have : (l.f : R) * b * c * (u * a) = (l.f * u) * (a * b * c) := by grind
    rw [this, e]
    grind
  | [A, B], [], [a, b], _, _, _ => trivial
theorem scR_last : ∀ (row : List (List Int)) (ss : List Int) (G : List Int), ss.length = row.length → (∀ s ∈ ss, 0 < s) → row.getLast? = some G → ∃ s, 0 < s ∧ (scR ss row).getLast? = some (mu s G)
  | [], _, G, _, _, h => by cases h
  | [A], [s], G, _, hp, h => by
    have : A = G := by
      have : some A = some G := h
      injection this
    subst this
    exact ⟨s, hp s (by simp), rfl⟩
  | A :: B :: r, a :: b :: ss, G, hl, hp, h => by
    obtain ⟨s, h1, h2⟩ := scR_last (B :: r) (b :: ss) G (by simp at hl ⊢; omega) (fun s hs => hp s (List.mem_cons_of_mem _ hs)) (by rw [← h]; rfl)
    refine ⟨s, h1, ?_⟩
    rw [← h2]
    rfl
theorem mu_nz {a : Int} (ha : a ≠ 0) {p : List Int} (h : Nz p) : Nz (mu a p) := by
  rcases h with rfl | ⟨n, h1, h2⟩
  · exact .inl rfl
  · exact .inr ⟨n, by rw [mu, List.length_map, h1], by rw [mu, ic_map]; exact Int.mul_ne_zero h2 ha⟩
theorem sc_ppr {P : List Int} {row : List (List Int)} {ls : List Lk3} (h : Ppr P 1 1 row ls) {a b : Int} {ss : List Int} (hl : (a :: b :: ss).length = row.length) (hp : ∀ s ∈ (a :: b :: ss), 0 < s) : Ppr P a b (scR (a :: b :: ss) row) (scL (a :: b :: ss) ls) := by
  obtain ⟨G, g1, g2, g3⟩ := h.last
  obtain ⟨s, s1, s2⟩ := scR_last row (a :: b :: ss) G hl hp g1
  refine ⟨hp a (by simp), hp b (by simp), ?_, rem_sc _ _ _ h.rm hl hp, mu s G, s2, by rw [mu, List.length_map, g2], mu_nz (by omega) g3⟩
  obtain ⟨r, e⟩ := h.hd
  rw [mu_1, mu_1] at e
  rw [e]
  exact ⟨_, rfl⟩
/-! ### the looker says so -/
theorem holds_of {A B C : List Int} {l : Lk3} (h : LkR A B C l) : holdsB A B C l = true := by
  unfold holdsB
  rw [decide_eq_true h.f, decide_eq_true h.d, Bool.true_and, Bool.true_and]
  refine decide_eq_true (strip_ipv fun x _ => ?_)
  have one : ∀ c : Int, ipv [c] x = (c : R) := fun c => by
    rw [ipv_cons, ipv_nil]
    grind
  rw [ipv_mulQ, ri_subL, ipv_strip, ipv_strip, ipv_mulQ, ipv_mulQ, one, one]
  exact h.e x
theorem allB_of : ∀ (row : List (List Int)) (ls : List Lk3) (pre : List (List Int)), Rem row ls → allB (pre ++ row) pre.length ls = true
  | A :: B :: C :: r, l :: ls, pre, h => by
    have ih := allB_of (B :: C :: r) ls (pre ++ [A]) h.2
    have e0 : ((pre ++ A :: B :: C :: r)[pre.length]?).getD [] = A := by
      rw [List.getElem?_append_right (by omega), Nat.sub_self]
      rfl
    have e1 : ((pre ++ A :: B :: C :: r)[pre.length + 1]?).getD [] = B := by
      rw [List.getElem?_append_right (by omega), show pre.length + 1 - pre.length = 1 by omega]
      rfl
    have e2 : ((pre ++ A :: B :: C :: r)[pre.length + 2]?).getD [] = C := by
      rw [List.getElem?_append_right (by omega), show pre.length + 2 - pre.length = 2 by omega]
      rfl
    show (holdsB _ _ _ l && allB _ (pre.length + 1) ls) = true
    rw [e0, e1, e2, holds_of h.1, Bool.true_and]
    rw [List.append_assoc, List.length_append] at ih
    exact ih
  | [A, B], [], pre, h => rfl
theorem chain_of : ∀ (row : List (List Int)) (ls : List Lk3), Rem row ls → Chain row
  | A :: B :: C :: r, l :: ls, h => by
    refine ⟨fun x hx => ?_, chain_of (B :: C :: r) ls h.2⟩
    have e := h.1.e x
    have pf := int_pos h.1.f
    have pd := int_pos h.1.d
    rw [← rsg_mul pf, ← rsg_mul pd (ipv C x), e, hx]
    obtain ⟨w, hw⟩ : ∃ w, (l.d : R) * ipv C x = w := ⟨_, rfl⟩
    rw [hw, show ipv l.q x * 0 - w = -w by grind]
    rcases lt_tri w with c | c | c
    · rw [rsg_neg c, rsg_pos (by grind)]
      rfl
    · rw [c, show -(0 : R) = 0 by grind, rsg_zero]
      rfl
    · rw [rsg_pos c, rsg_neg (by grind)]
  | [A, B], [], _ => trivial
theorem mu_inj {a : Int} {p : List Int} (h : Nz p) (h0 : p ≠ []) (e : mu a p = p) : a = 1 := by
  rcases h with h | ⟨n, h1, h2⟩
  · exact absurd h h0
  · have : ic (mu a p) n = ic p n := by rw [e]
    rw [mu, ic_map] at this
    have : ic p n * (a - 1) = 0 := by grind
    rcases Int.mul_eq_zero.mp this with w | w
    · exact absurd w h2
    · omega
noncomputable def En.v (e : En) : R := frac e.a e.b
theorem en_sg {e : En} (hb : 0 < e.b) (p : List Int) : e.sg p = rsg (ipv p e.v) := sgn_th hb (frac_eq hb) p
theorem chE_eq {e : En} (hb : 0 < e.b) (row : List (List Int)) : chE row e = chs row e.v := by
  unfold chE chs sgs
  congr 1
  exact List.map_congr_left fun p _ => en_sg hb p
theorem rsg_neg_iff {x : R} : rsg x < 0 ↔ x < 0 := by
  rcases lt_tri x with c | c | c
  · rw [rsg_neg c]; exact ⟨fun _ => c, fun _ => by omega⟩
  · rw [c, rsg_zero]; exact ⟨fun z => by omega, fun z => by grind⟩
  · rw [rsg_pos c]; exact ⟨fun z => by omega, fun z => by grind⟩
theorem cmp_lt {x y : En} (hx : 0 < x.b) (hy : 0 < y.b) : x.cmp y < 0 ↔ x.v < y.v := by
  unfold En.cmp
  rw [frac_cmp hx hy, rsg_neg_iff]
  show x.v - y.v < 0 ↔ _
  constructor <;> intro h <;> grind
theorem count_one {P : List Int} {row : List (List Int)} {ls : List Lk3} (h : Ppr P 1 1 row ls) (h2 : Two P (shr (slp P))) {lo hi : En} (hl : 0 < lo.b) (hh : 0 < hi.b) (hlt : lo.v < hi.v) {v : R} (hv : ∀ z, (ipv P z = 0 ∧ lo.v < z ∧ z ≤ hi.v) ↔ z = v) : chE row lo - chE row hi = 1 := by
  classical
  obtain ⟨r, e⟩ := h.hd
  rw [mu_1, mu_1] at e
  obtain ⟨G, g1, g2, g3⟩ := h.last
  have sS0 : slp P ≠ [] := fun z => by
    have := h2.b0
    rw [z] at this
    exact this rfl
  have S : Sturm P (shr (slp P)) r := by
    refine ⟨by rw [← e]; exact chain_of _ _ h.rm, ⟨G, by rw [← e]; exact g1, fun x hx => ?_⟩, fun x => ?_⟩
    · match G, g2, g3, hx with
      | [c], _, g3, hx =>
        rcases g3 with g3 | ⟨n, h4, h5⟩
        · cases g3
        · have : n = 0 := by simp at h4; omega
          subst this
          rw [ipv_cons, ipv_nil] at hx
          have : (c : R) = 0 := by grind
          exact (int_ne.mpr h5) this
    · have g := gc_pos (slp_nz h2.nA) sS0
      rw [← shr_ipv (slp_nz h2.nA) sS0 x, rsg_mul (int_pos (show (0 : Int) < (gc (slp P) : Int) by omega))]
  obtain ⟨L, l1, l2, l3⟩ := sturm S
  rw [chE_eq hl, chE_eq hh, e]
  have := l3 (rat_lt.mp hlt)
  show chs _ (frac lo.a lo.b) - chs _ (frac hi.a hi.b) = 1
  unfold frac
  rw [this]
  have hf : (L.filter fun z => decide (rat ((lo.a : Rat) / (lo.b : Rat)) < z ∧ z ≤ rat ((hi.a : Rat) / (hi.b : Rat)))) = [v] := by
    have nd : (L.filter fun z => decide (rat ((lo.a : Rat) / (lo.b : Rat)) < z ∧ z ≤ rat ((hi.a : Rat) / (hi.b : Rat)))).Nodup := l1.filter _
    have mem : ∀ z, z ∈ (L.filter fun z => decide (rat ((lo.a : Rat) / (lo.b : Rat)) < z ∧ z ≤ rat ((hi.a : Rat) / (hi.b : Rat)))) ↔ z = v := fun z => by
      rw [List.mem_filter, ← l2, ← hv z, decide_eq_true_eq]
      exact Iff.rfl
    generalize (L.filter fun z => decide (rat ((lo.a : Rat) / (lo.b : Rat)) < z ∧ z ≤ rat ((hi.a : Rat) / (hi.b : Rat)))) = M at nd mem
    match M, nd, mem with
    | [], _, mem => exact absurd ((mem v).mpr rfl) (by simp)
    | [w], _, mem => rw [(mem w).mp (by simp)]
    | w :: w2 :: t, nd, mem =>
      exfalso
      have a1 := (mem w).mp (by simp)
      have a2 := (mem w2).mp (by simp)
      rw [a1, a2] at nd
      simp at nd
  rw [hf]
  rfl
/-- the looker at a scaled paper -/
theorem jo_of {P : List Int} {a b : Int} {row : List (List Int)} {ls : List Lk3} (h : Ppr P a b row ls) (h2 : Two P (shr (slp P))) {lo hi : En} (hl : 0 < lo.b) (hh : 0 < hi.b) (hlt : lo.v < hi.v) {v : R} (hv : ∀ z, (ipv P z = 0 ∧ lo.v < z ∧ z ≤ hi.v) ↔ z = v) : joB P lo hi row ls = decide (a = 1 ∧ b = 1) := by
  obtain ⟨r, e⟩ := h.hd
  have hP0 : P ≠ [] := fun z => by
    have := h2.lt
    rw [z] at this
    simp at this
  by_cases c : a = 1 ∧ b = 1
  · obtain ⟨rfl, rfl⟩ := c
    have hc := count_one h h2 hl hh hlt hv
    obtain ⟨G, g1, g2, g3⟩ := h.last
    have hr := rem_len2 _ _ h.rm
    have ha := allB_of row ls [] h.rm
    rw [List.nil_append] at ha
    have e0 : (row[0]?).getD [] = P := by rw [e, mu_1]; rfl
    have e1 : (row[1]?).getD [] = shr (slp P) := by rw [e, mu_1, mu_1]; rfl
    have e2 : 2 ≤ row.length := by omega
    unfold joB
    rw [g1, decide_eq_true e2, decide_eq_true hr, decide_eq_true e0, decide_eq_true e1]
    rw [show ((some G).getD []).length = 1 from g2, show allB row 0 ls = true from ha, decide_eq_true ((cmp_lt hl hh).mpr hlt), decide_eq_true hc]
    rfl
  · rw [decide_eq_false c]
    unfold joB
    have hd : (decide ((row[0]?).getD [] = P) && decide ((row[1]?).getD [] = shr (slp P))) = false := by
      rw [e]
      show (decide (mu a P = P) && decide (mu b (shr (slp P)) = shr (slp P))) = false
      by_cases q : mu a P = P
      · have ha := mu_inj h2.nA hP0 q
        have hb : ¬ mu b (shr (slp P)) = shr (slp P) := fun z => c ⟨ha, mu_inj h2.nB h2.b0 z⟩
        rw [decide_eq_false hb, Bool.and_false]
      · rw [decide_eq_false q, Bool.false_and]
    cases q0 : decide ((row[0]?).getD [] = P) with
    | false => simp
    | true =>
      rw [q0, Bool.true_and] at hd
      rw [hd]
      simp
end P87
set_option Elab.async false
set_option linter.all false
set_option maxRecDepth 100000
set_option maxHeartbeats 4000000
/-! papers scaled, papers told -/
namespace P87
open PySem L2 Ev C87 Pd Rl Qd
/-- [g(x) for x in things] -/
theorem compR_D {α : Type} {i : Nat} {ee : Stt → Option (O (Bool × D))} {s : Stt} (f g : α → D) (hs : s.sl[i]? = some none) : ∀ {p : List α} {acc : List D}, (∀ x ∈ p, ∃ o, ee ⟨s.sl.set i (some (false, f x)), s.ob⟩ = some (.ok (o, g x) ⟨s.sl.set i (some (false, f x)), s.ob⟩)) → acc.length + p.length ≤ 16777216 →
    compR i ee none (p.map f) acc s = some (.ok (acc ++ p.map g) s)
  | [], acc, _, _ => by simp [compR]
  | x :: r, acc, h, hl => by
    obtain ⟨o, e⟩ := h x (List.mem_cons_self ..)
    have e0 : (s.sl.set i (some (false, f x))).set i none = s.sl := by
      rw [List.set_set]
      refine List.ext_getElem? fun j => ?_
      rw [List.getElem?_set]
      split
      · rename_i z
        subst z
        split
        · exact hs.symm
        · rename_i hl
          exact absurd (List.getElem?_eq_some_iff.mp hs).1 hl
      · rfl
    rw [List.map_cons]
    unfold compR
    simp only [bnd_ok, if_true, e]
    rw [if_pos (by simp at hl; omega), e0, compR_D f g hs (fun y hy => h y (List.mem_cons_of_mem _ hy)) (by simp at hl ⊢; omega)]
    simp
/-! ### equal things are equal -/
theorem eq_rw (L : List (List Int)) : eqD (.lst (L.map fun q => .lst (intl q))) (.lst (L.map fun q => .lst (intl q))) = some true := by
  show ((toPyL (L.map fun q => .lst (intl q))).map PyData.list).bind (fun a => ((toPyL (L.map fun q => .lst (intl q))).map PyData.list).bind fun b => if SeqAt.shaped a = true ∧ SeqAt.shaped b = true then some (PyData.eqv a b) else none) = _
  rw [toPyL_pls]
  have hs : SeqAt.shaped (.list (L.map fun q => PyData.list (q.map .int))) = true := by
    show (PyData.canLayAll0 (L.map fun q => PyData.list (q.map .int)) && decide (PyData.depthAll (L.map fun q => PyData.list (q.map .int)) + 1 ≤ 64)) = true
    have := depth_pls L
    rw [lay_pls, decide_eq_true (by omega)]
    rfl
  show (if SeqAt.shaped (.list (L.map fun q => PyData.list (q.map .int))) = true ∧ SeqAt.shaped (.list (L.map fun q => PyData.list (q.map .int))) = true then some (PyData.eqvAll (L.map fun q => PyData.list (q.map .int)) (L.map fun q => PyData.list (q.map .int))) else none) = _
  rw [if_pos ⟨hs, hs⟩]
  congr 1
  induction L with
  | nil => rfl
  | cons p L ih =>
    show (PyData.eqvAll (p.map .int) (p.map .int) && PyData.eqvAll (L.map fun q => PyData.list (q.map .int)) (L.map fun q => PyData.list (q.map .int))) = true
    have hs2 : SeqAt.shaped (.list (L.map fun q => PyData.list (q.map .int))) = true := by
      show (PyData.canLayAll0 (L.map fun q => PyData.list (q.map .int)) && decide (PyData.depthAll (L.map fun q => PyData.list (q.map .int)) + 1 ≤ 64)) = true
      have := depth_pls L
      rw [lay_pls, decide_eq_true (by omega)]
      rfl
    rw [ih hs2, eqv_ints, decide_eq_true rfl]
    rfl
def lkP (l : Lk3) : PyData := .tuple [.int l.f, .list (l.q.map .int), .int l.d]
theorem toPyL_ls : ∀ L : List Lk3, toPyL (L.map Lk3.D) = some (L.map lkP)
  | [] => rfl
  | l :: L => by
    show (toPy (Lk3.D l)).bind (fun x => (toPyL (L.map Lk3.D)).map (x :: ·)) = _
    rw [toPyL_ls L]
    have : toPy (Lk3.D l) = some (lkP l) := by
      show (toPyL [.int l.f, pl l.q, .int l.d]).map PyData.tuple = _
      have h : toPyL [.int l.f, pl l.q, .int l.d] = some [.int l.f, .list (l.q.map .int), .int l.d] := by
        show (toPy (.int l.f)).bind (fun y => ((toPy (pl l.q)).bind fun z => (some [PyData.int l.d]).map (z :: ·)).map (y :: ·)) = _
        have hq : toPy (pl l.q) = some (.list (l.q.map .int)) := by
          show (toPyL (intl l.q)).map PyData.list = _
          rw [toPy_ints]
          rfl
        rw [hq]
        rfl
      rw [h]
      rfl
    rw [this]
    rfl
theorem lay_ls : ∀ L : List Lk3, PyData.canLayAll0 (L.map lkP) = true
  | [] => rfl
  | l :: L => by
    show ((true && (PyData.canLayAll0 (l.q.map .int) && (true && true))) && PyData.canLayAll0 (L.map lkP)) = true
    rw [lay_ls L, lay_ints]
    rfl
theorem depth_ls : ∀ L : List Lk3, PyData.depthAll (L.map lkP) ≤ 2
  | [] => Nat.zero_le _
  | l :: L => by
    show max (max 0 (max (PyData.depthAll (l.q.map .int) + 1) (max 0 0)) + 1) (PyData.depthAll (L.map lkP)) ≤ 2
    have := depth_ls L
    rw [depth_ints]
    omega
theorem eq_ls (L : List Lk3) : eqD (.lst (L.map Lk3.D)) (.lst (L.map Lk3.D)) = some true := by
  show ((toPyL (L.map Lk3.D)).map PyData.list).bind (fun a => ((toPyL (L.map Lk3.D)).map PyData.list).bind fun b => if SeqAt.shaped a = true ∧ SeqAt.shaped b = true then some (PyData.eqv a b) else none) = _
  rw [toPyL_ls]
  have hs : SeqAt.shaped (.list (L.map lkP)) = true := by
    show (PyData.canLayAll0 (L.map lkP) && decide (PyData.depthAll (L.map lkP) + 1 ≤ 64)) = true
    have := depth_ls L
    rw [lay_ls, decide_eq_true (by omega)]
    rfl
  show (if SeqAt.shaped (.list (L.map lkP)) = true ∧ SeqAt.shaped (.list (L.map lkP)) = true then some (PyData.eqvAll (L.map lkP) (L.map lkP)) else none) = _
  rw [if_pos ⟨hs, hs⟩]
  congr 1
  clear hs
  induction L with
  | nil => rfl
  | cons l L ih =>
    show (((l.f == l.f) && (PyData.eqvAll (l.q.map .int) (l.q.map .int) && ((l.d == l.d) && true))) && PyData.eqvAll (L.map lkP) (L.map lkP)) = true
    rw [ih, eqv_ints, decide_eq_true rfl]
    simp
/-! ### scaled -/
def enG (k : Nat) (ds : List D) : List D := ((List.range' k ds.length).zip ds).map fun p => .tup [.int (p.1 : Nat), p.2]
theorem enG_cons (k : Nat) (d : D) (ds : List D) : enG k (d :: ds) = .tup [.int k, d] :: enG (k + 1) ds := by
  unfold enG
  rw [List.length_cons, List.range'_succ]
  rfl
theorem enum_enG (ds : List D) : enumD ds = enG 0 ds := by
  unfold enumD enG
  rw [List.range_eq_range']
theorem sc_rows (n : Nat) (pd : D) (ss : List Int) (hss : ∀ s ∈ ss, sm s) (ob : List OE) (o7 o8 o9 o10 : Option (Bool × D)) : ∀ (row : List (List Int)) (k : Nat) (acc : List (List Int)) (o3 o4 : Option (Bool × D)), k + row.length = ss.length → acc.length + row.length < 1000 → (∀ p ∈ row, p.length < 1000) → ∃ o3' o4',
    forR (fun d s => (match d with
    | .tup l => (setAll [3, 4] l s).bind (evS (tab t.lw n) (.seq (.ex (.app 2 (.comp (.bin .Mult (.var 5) (.idx (.var 1) (.var 3))) 5 (.var 4) (.anil))))
    (.nil)))
    | _ => none)) (enG k (row.map pl)) ⟨[some (false, pd), some (false, .lst (intl ss)), some (true, rw_ acc), o3, o4, none, none, o7, o8, o9, o10, none], ob⟩ =
      some (.nx ⟨[some (false, pd), some (false, .lst (intl ss)), some (true, rw_ (acc ++ scR (ss.drop k) row)), o3', o4', none, none, o7, o8, o9, o10, none], ob⟩)
  | [], k, acc, o3, o4, _, _, _ => ⟨o3, o4, by
    have : scR (ss.drop k) [] = [] := by cases ss.drop k <;> rfl
    rw [this, List.append_nil]
    rfl⟩
  | A :: row, k, acc, o3, o4, hk, hl, hA => by
    have hk2 : k + (row.length + 1) = ss.length := hk
    have hl2 : acc.length + (row.length + 1) < 1000 := hl
    have hks : k < ss.length := by omega
    have hd : ss.drop k = ss[k] :: ss.drop (k + 1) := List.drop_eq_getElem_cons hks
    obtain ⟨o3', o4', e⟩ := sc_rows n pd ss hss ob o7 o8 o9 o10 row (k + 1) (acc ++ [mu ss[k] A]) (some (false, .int k)) (some (false, pl A)) (by omega) (by simp; omega) (fun p hp => hA p (List.mem_cons_of_mem _ hp))
    refine ⟨o3', o4', ?_⟩
    rw [List.map_cons, enG_cons, forR_cons]
    have hat : atI (intl ss) (k : Int) = some (.int ss[k]) := by
      rw [atI_nat, get_intl, List.getElem?_eq_getElem hks]
      rfl
    have hsm := hss ss[k] (List.getElem_mem hks)
    have hAl := hA A (List.mem_cons_self ..)
    have l2 : acc.length < 16777216 := by omega
    have hc : compR 5 (ev (tab t.lw n) (.bin .Mult (.var 5) (.idx (.var 1) (.var 3)))).E none (intl A) [] ⟨[some (false, pd), some (false, .lst (intl ss)), some (true, rw_ acc), some (false, .int k), some (false, pl A), none, none, o7, o8, o9, o10, none], ob⟩ = some (.ok (intl (mu ss[k] A)) ⟨[some (false, pd), some (false, .lst (intl ss)), some (true, rw_ acc), some (false, .int k), some (false, pl A), none, none, o7, o8, o9, o10, none], ob⟩) := by
      rw [compR_int (fun x => .int (x * ss[k])) rfl (fun x hx => ⟨false, by simp [hat, mulR hsm]⟩) (by simp; omega)]
      simp [intl, mu]
    have step : (setAll [3, 4] [.int k, pl A] ⟨[some (false, pd), some (false, .lst (intl ss)), some (true, rw_ acc), o3, o4, none, none, o7, o8, o9, o10, none], ob⟩).bind (evS (tab t.lw n) (.seq (.ex (.app 2 (.comp (.bin .Mult (.var 5) (.idx (.var 1) (.var 3))) 5 (.var 4) (.anil))))
    (.nil))) = some (.nx ⟨[some (false, pd), some (false, .lst (intl ss)), some (true, rw_ (acc ++ [mu ss[k] A])), some (false, .int k), some (false, pl A), none, none, o7, o8, o9, o10, none], ob⟩) := by
      simp [hc, l2]
    show thenO ((setAll [3, 4] [.int k, pl A] _).bind _) _ = _
    rw [step, thenO_nx, e, hd]
    show some (Out.nx ⟨[_, _, some (true, rw_ (acc ++ [mu ss[k] A] ++ scR (ss.drop (k + 1)) row)), _, _, _, _, _, _, _, _, _], ob⟩) = some (Out.nx ⟨[_, _, some (true, rw_ (acc ++ (mu ss[k] A :: scR (ss.drop (k + 1)) row))), _, _, _, _, _, _, _, _, _], ob⟩)
    rw [List.append_assoc]
    rfl
theorem cut_3 (ss : List Int) (k : Nat) (h : k + 3 ≤ ss.length) : Ev.cut (intl ss) (some (k : Int)) (some ((k : Int) + 3)) = [.int ss[k], .int ss[k + 1], .int ss[k + 2]] := by
  unfold Ev.cut
  rw [len_intl, show ((k : Int) + 3) = ((k + 3 : Nat) : Int) by omega, HT.sIx_nat, HT.sIx_nat, Nat.min_eq_left (by omega), Nat.min_eq_left (by omega), show k + 3 - k = 3 by omega, intl_drop]
  rw [List.drop_eq_getElem_cons (show k < ss.length by omega), List.drop_eq_getElem_cons (show k + 1 < ss.length by omega), List.drop_eq_getElem_cons (show k + 2 < ss.length by omega)]
  rfl
theorem sc_links (n : Nat) (pd : D) (ss : List Int) (hss : ∀ s ∈ ss, sm s) (ob : List OE) (rr : D) (o4 : Option (Bool × D)) : ∀ (ls : List Lk3) (k : Nat) (acc : List Lk3) (o3 o5 o7 o8 o9 o10 : Option (Bool × D)), k + ls.length + 2 = ss.length → acc.length + ls.length < 1000 → (∀ l ∈ ls, l.q.length < 1000) → ∃ o3' o5' o7' o8' o9' o10',
    forR (fun d s => (match d with
    | .tup l => (setAll [3, 7] l s).bind (evS (tab t.lw n) (.seq (.tas [5, 9, 10] (.slc (.var 1) (.var 3) (.bin .Add (.var 3) (.con (.int 3)))))
    (.seq (.asgc 8 (.comp (.bin .Mult (.bin .Mult (.var 11) (.var 5)) (.var 10)) 11 (.idx (.var 7) (.con (.int 1))) (.anil)))
    (.seq (.ex (.app 6 (.tup (.acons (.bin .Mult (.bin .Mult (.idx (.var 7) (.con (.int 0))) (.var 9)) (.var 10)) (.acons (.var 8) (.acons (.bin .Mult (.bin .Mult (.idx (.var 7) (.con (.int 2))) (.var 5)) (.var 9)) (.anil)))))))
    (.nil)))))
    | _ => none)) (enG k (ls.map Lk3.D)) ⟨[some (false, pd), some (false, .lst (intl ss)), some (true, rr), o3, o4, o5, some (true, .lst (acc.map Lk3.D)), o7, o8, o9, o10, none], ob⟩ =
      some (.nx ⟨[some (false, pd), some (false, .lst (intl ss)), some (true, rr), o3', o4, o5', some (true, .lst ((acc ++ scL (ss.drop k) ls).map Lk3.D)), o7', o8', o9', o10', none], ob⟩)
  | [], k, acc, o3, o5, o7, o8, o9, o10, _, _, _ => ⟨o3, o5, o7, o8, o9, o10, by
    have : scL (ss.drop k) [] = [] := by
      match ss.drop k with
      | [] => rfl
      | [_] => rfl
      | [_, _] => rfl
      | _ :: _ :: _ :: _ => rfl
    rw [this, List.append_nil]
    rfl⟩
  | l :: ls, k, acc, o3, o5, o7, o8, o9, o10, hk, hl, hA => by
    have hk2 : k + (ls.length + 1) + 2 = ss.length := hk
    have hl2 : acc.length + (ls.length + 1) < 1000 := hl
    have k0 : k < ss.length := by omega
    have k1 : k + 1 < ss.length := by omega
    have k2 : k + 2 < ss.length := by omega
    have hd : ss.drop k = ss[k] :: ss[k + 1] :: ss[k + 2] :: ss.drop (k + 3) := by
      rw [List.drop_eq_getElem_cons k0, List.drop_eq_getElem_cons k1, List.drop_eq_getElem_cons k2]
    have hd1 : ss.drop (k + 1) = ss[k + 1] :: ss[k + 2] :: ss.drop (k + 3) := by
      rw [List.drop_eq_getElem_cons k1, List.drop_eq_getElem_cons k2]
    have hcut := cut_3 ss k (by omega)
    have s0 := hss ss[k] (List.getElem_mem k0)
    have s1 := hss ss[k + 1] (List.getElem_mem k1)
    have s2 := hss ss[k + 2] (List.getElem_mem k2)
    generalize ss[k] = a at *
    generalize ss[k + 1] = b at *
    generalize ss[k + 2] = c at *
    obtain ⟨a3, a5, a7, a8, a9, a10, e⟩ := sc_links n pd ss hss ob rr o4 ls (k + 1) (acc ++ [(⟨l.f * b * c, l.q.map (· * a * c), l.d * a * b⟩ : Lk3)]) (some (false, .int k)) (some (false, .int a)) (some (false, l.D)) (some (false, pl (l.q.map (· * a * c)))) (some (false, .int b)) (some (false, .int c)) (by omega) (by simp; omega) (fun p hp => hA p (List.mem_cons_of_mem _ hp))
    refine ⟨a3, a5, a7, a8, a9, a10, ?_⟩
    rw [List.map_cons, enG_cons, forR_cons]
    have hAl := hA l (List.mem_cons_self ..)
    have l2 : acc.length < 16777216 := by omega
    have hc : ∀ (o8 : Option (Bool × D)), compR 11 (ev (tab t.lw n) (.bin .Mult (.bin .Mult (.var 11) (.var 5)) (.var 10))).E none (intl l.q) [] ⟨[some (false, pd), some (false, .lst (intl ss)), some (true, rr), some (false, .int k), o4, some (false, .int a), some (true, .lst (acc.map Lk3.D)), some (false, l.D), o8, some (false, .int b), some (false, .int c), none], ob⟩ = some (.ok (intl (l.q.map (· * a * c))) ⟨[some (false, pd), some (false, .lst (intl ss)), some (true, rr), some (false, .int k), o4, some (false, .int a), some (true, .lst (acc.map Lk3.D)), some (false, l.D), o8, some (false, .int b), some (false, .int c), none], ob⟩) := fun o8 => by
      rw [compR_int (fun x => .int (x * a * c)) rfl (fun x hx => ⟨false, by simp [mulR s0, mulR s2]⟩) (by simp; omega)]
      simp [intl]
    have step : (setAll [3, 7] [.int k, l.D] ⟨[some (false, pd), some (false, .lst (intl ss)), some (true, rr), o3, o4, o5, some (true, .lst (acc.map Lk3.D)), o7, o8, o9, o10, none], ob⟩).bind (evS (tab t.lw n) (.seq (.tas [5, 9, 10] (.slc (.var 1) (.var 3) (.bin .Add (.var 3) (.con (.int 3)))))
    (.seq (.asgc 8 (.comp (.bin .Mult (.bin .Mult (.var 11) (.var 5)) (.var 10)) 11 (.idx (.var 7) (.con (.int 1))) (.anil)))
    (.seq (.ex (.app 6 (.tup (.acons (.bin .Mult (.bin .Mult (.idx (.var 7) (.con (.int 0))) (.var 9)) (.var 10)) (.acons (.var 8) (.acons (.bin .Mult (.bin .Mult (.idx (.var 7) (.con (.int 2))) (.var 5)) (.var 9)) (.anil)))))))
    (.nil))))) = some (.nx ⟨[some (false, pd), some (false, .lst (intl ss)), some (true, rr), some (false, .int k), o4, some (false, .int a), some (true, .lst ((acc ++ [(⟨l.f * b * c, l.q.map (· * a * c), l.d * a * b⟩ : Lk3)]).map Lk3.D)), some (false, l.D), some (false, pl (l.q.map (· * a * c))), some (false, .int b), some (false, .int c), none], ob⟩) := by
      refine seq_nx (s1 := ⟨[some (false, pd), some (false, .lst (intl ss)), some (true, rr), some (false, .int k), o4, some (false, .int a), some (true, .lst (acc.map Lk3.D)), some (false, l.D), o8, some (false, .int b), some (false, .int c), none], ob⟩) (by simp [hcut]) ?_
      refine seq_nx (s1 := ⟨[some (false, pd), some (false, .lst (intl ss)), some (true, rr), some (false, .int k), o4, some (false, .int a), some (true, .lst (acc.map Lk3.D)), some (false, l.D), some (true, pl (l.q.map (· * a * c))), some (false, .int b), some (false, .int c), none], ob⟩) ?_ ?_
      · have := hc o8
        simp [Lk3.D] at this ⊢
        simp [this]
      · refine seq_nx (s1 := ⟨[some (false, pd), some (false, .lst (intl ss)), some (true, rr), some (false, .int k), o4, some (false, .int a), some (true, .lst ((acc ++ [(⟨l.f * b * c, l.q.map (· * a * c), l.d * a * b⟩ : Lk3)]).map Lk3.D)), some (false, l.D), some (false, pl (l.q.map (· * a * c))), some (false, .int b), some (false, .int c), none], ob⟩) ?_ (by simp)
        simp [Lk3.D, mulR s0, mulR s1, mulR s2, l2]
    show thenO ((setAll [3, 7] [.int k, l.D] _).bind _) _ = _
    rw [step, thenO_nx, e, hd]
    show some (Out.nx ⟨[_, _, _, _, _, _, some (true, .lst ((acc ++ [(⟨l.f * b * c, l.q.map (· * a * c), l.d * a * b⟩ : Lk3)] ++ scL (ss.drop (k + 1)) ls).map Lk3.D)), _, _, _, _, _], ob⟩) = some (Out.nx ⟨[_, _, _, _, _, _, some (true, .lst ((acc ++ ((⟨l.f * b * c, l.q.map (· * a * c), l.d * a * b⟩ : Lk3) :: scL (b :: c :: ss.drop (k + 3)) ls)).map Lk3.D)), _, _, _, _, _], ob⟩)
    rw [List.append_assoc, hd1]
    rfl
theorem scaled_ok (n : Nat) (row : List (List Int)) (ls : List Lk3) (ss : List Int) (hss : ∀ s ∈ ss, sm s) (h1 : ss.length = row.length) (h2 : ls.length + 2 = row.length) (hr : row.length < 100) (hA : ∀ p ∈ row, p.length < 1000) (hB : ∀ l ∈ ls, l.q.length < 1000) (ob : List OE) : S__law_scaled n [.tup [rw_ row, ls_ ls], .lst (intl ss)] ob = some (.ret false (.tup [rw_ (scR ss row), ls_ (scL ss ls)]) ob) := by
  rw [E__law_scaled]
  unfold b__law_scaled
  obtain ⟨o3, o4, e1⟩ := sc_rows n (.tup [rw_ row, ls_ ls]) ss hss ob none none none none row 0 [] none none (by omega) (by simp; omega) hA
  obtain ⟨a3, a5, a7, a8, a9, a10, e2⟩ := sc_links n (.tup [rw_ row, ls_ ls]) ss hss ob (rw_ (scR ss row)) o4 ls 0 [] o3 none none none none none (by omega) (by simp; omega) hB
  refine def_rt (s := ⟨[some (false, .tup [rw_ row, ls_ ls]), some (false, .lst (intl ss)), some (false, rw_ (scR ss row)), a3, o4, a5, some (false, ls_ (scL ss ls)), a7, a8, a9, a10, none], ob⟩) ?_ rfl
  refine seq_nx (s1 := ⟨[some (false, .tup [rw_ row, ls_ ls]), some (false, .lst (intl ss)), some (true, rw_ []), none, none, none, none, none, none, none, none, none], ob⟩) (by simp) ?_
  refine seq_nx (s1 := ⟨[some (false, .tup [rw_ row, ls_ ls]), some (false, .lst (intl ss)), some (true, rw_ (scR ss row)), o3, o4, none, none, none, none, none, none, none], ob⟩) ?_ ?_
  · simp [enum_enG]
    exact e1
  · refine seq_nx (s1 := ⟨[some (false, .tup [rw_ row, ls_ ls]), some (false, .lst (intl ss)), some (true, rw_ (scR ss row)), o3, o4, none, some (true, .lst []), none, none, none, none, none], ob⟩) (by simp) ?_
    refine seq_nx (s1 := ⟨[some (false, .tup [rw_ row, ls_ ls]), some (false, .lst (intl ss)), some (true, rw_ (scR ss row)), a3, o4, a5, some (true, ls_ (scL ss ls)), a7, a8, a9, a10, none], ob⟩) ?_ (seq_rt (by simp))
    simp [enum_enG]
    exact e2
end P87
set_option Elab.async false
set_option linter.all false
set_option maxRecDepth 100000
set_option maxHeartbeats 4000000
/-! a paper told to the looker; sizes -/
namespace P87
open PySem L2 Ev C87 Pd Rl Qd
theorem ratio_en (n : Nat) (x d : Int) (hd : 0 < d) (hs : sm d) (hx : sm x) (ob : List OE) : ∃ e : En, 0 < e.b ∧ e.a * d = x * e.b ∧ mkF 4 (S_Ratio___init__ (n + 1)) [.int x, .int d] ob = some (.ret false e.d ob) := by
  obtain ⟨a, b, f, e⟩ := ratio_make n x d hd hs hx ob
  exact ⟨⟨a, b, f.sa, f.sb⟩, f.pos, f.eq, e⟩
theorem en_v {e : En} {x d : Int} (hb : 0 < e.b) (h : e.a * d = x * e.b) : (d : R) * e.v = (x : R) := by
  have h1 := frac_eq (t := e.a) hb
  have h2 : (e.a : R) * d = x * e.b := by rw [← int_mul, ← int_mul, h]
  have pb := int_pos hb
  have bi := mul_inv' (show (e.b : R) ≠ 0 by grind)
  show (d : R) * frac e.a e.b = x
  generalize frac e.a e.b = v at *
  have : (e.b : R) * ((d : R) * v - x) = 0 := by
    have : (e.b : R) * ((d : R) * v - x) = d * (e.b * v) - x * e.b := by grind
    rw [this, h1]
    grind
  have : (d : R) * v - x = (e.b : R)⁻¹ * ((e.b : R) * ((d : R) * v - x)) := by grind
  grind
theorem div_lt {d v x : R} (hd : 0 < d) (a : R) (ha : d * a = x) : a < v ↔ x < d * v := by
  constructor
  · intro h
    have := mul_pos hd (show 0 < v - a by grind)
    grind
  · intro h
    by_cases c : a < v
    · exact c
    · have := mul_nn (show 0 ≤ d by grind) (show 0 ≤ a - v by grind)
      grind
theorem div_le {d v x : R} (hd : 0 < d) (a : R) (ha : d * a = x) : v ≤ a ↔ d * v ≤ x := by
  constructor
  · intro h
    have := mul_nn (show 0 ≤ d by grind) (show 0 ≤ a - v by grind)
    grind
  · intro h
    by_cases c : v ≤ a
    · exact c
    · have := mul_pos hd (show 0 < v - a by grind)
      grind
/-- a polynomial whose roots are the spots -/
def Roots (t : R) (P : List Int) (L : List Spot) : Prop := ∀ z, ipv P z = 0 ↔ ∃ o ∈ L, z = o.v t
theorem told_ok (n : Nat) {P : List Int} {a b : Int} {row : List (List Int)} {ls : List Lk3} (h : Ppr P a b row ls) (h2 : Two P (shr (slp P))) {t : R} {L : List Spot} {p : Spot} (hp : p ∈ L) (hR : Roots t P L) {s : Spn} {k : Nat} (g : Good (p.v t) s k) (hk : k ≤ 51) (hn : Nin t L p s)
    (K : Nat) (hK : K ≤ 8000) (fP : Few K P) (hr : ∀ p ∈ row, Few 1000000 p) (hl : ∀ l ∈ ls, LkOk 1000000 l) (hlr : row.length < 1000) (ob : List OE) :
    S__law_told (n + 5) [pl P, s.d, .tup [rw_ row, ls_ ls]] ob = some (.ret false (.bl (decide (a = 1 ∧ b = 1))) ob) := by
  have zb := g.bd (by omega)
  have hx := g.xl
  have hy := g.yh
  have hw := g.w
  obtain ⟨lo, l1, l2, e1⟩ := ratio_en (n + 3) s.x s.z zb.1 ⟨by omega, by omega⟩ ⟨by omega, by omega⟩ ob
  obtain ⟨hi, l3, l4, e2⟩ := ratio_en (n + 3) s.y s.z zb.1 ⟨by omega, by omega⟩ ⟨by omega, by omega⟩ ob
  have v1 := en_v l1 l2
  have v2 := en_v l3 l4
  have zr := int_pos zb.1
  have hlt : lo.v < hi.v := by
    rw [div_lt zr _ v1, v2]
    exact int_lt.mpr (by omega)
  have hv : ∀ z, (ipv P z = 0 ∧ lo.v < z ∧ z ≤ hi.v) ↔ z = p.v t := fun z => by
    rw [hR, div_lt zr _ v1, div_le zr _ v2]
    constructor
    · rintro ⟨⟨o, ho, rfl⟩, w1, w2⟩
      by_cases c : o = p
      · rw [c]
      · exact absurd ⟨by grind, w2⟩ (hn o ho c)
    · rintro rfl
      exact ⟨⟨p, hp, rfl⟩, g.lo, g.hi⟩
  have hj := jo_of h h2 l1 l3 hlt hv
  have rl := rem_len2 _ _ h.rm
  have e3 := just_ok n P lo hi row ls ob K hK fP h2.nA hr hl (by omega) (by omega)
  rw [hj] at e3
  generalize decide (a = 1 ∧ b = 1) = B at *
  rw [E__law_told]
  unfold b__law_told
  have c1 : compR 4 (ev (tab C87.t.lw (n + 5)) (.b1 .list (.var 4))).E none (row.map pl) [] ⟨[some (false, pl P), some (false, s.d), some (false, .tup [rw_ row, ls_ ls]), none, none, none, none, none, none, none], ob⟩ = some (.ok (row.map pl) ⟨[some (false, pl P), some (false, s.d), some (false, .tup [rw_ row, ls_ ls]), none, none, none, none, none, none, none], ob⟩) := by
    rw [compR_D pl pl rfl (fun x hx => ⟨true, by simp⟩) (by simp; omega)]
    rfl
  have c2 : compR 6 (ev (tab C87.t.lw (n + 5)) (.tup (.acons (.idx (.var 6) (.con (.int 0))) (.acons (.b1 .list (.idx (.var 6) (.con (.int 1)))) (.acons (.idx (.var 6) (.con (.int 2))) (.anil)))))).E none (ls.map Lk3.D) [] ⟨[some (false, pl P), some (false, s.d), some (false, .tup [rw_ row, ls_ ls]), some (true, rw_ row), none, none, none, none, none, none], ob⟩ = some (.ok (ls.map Lk3.D) ⟨[some (false, pl P), some (false, s.d), some (false, .tup [rw_ row, ls_ ls]), some (true, rw_ row), none, none, none, none, none, none], ob⟩) := by
    rw [compR_D Lk3.D Lk3.D rfl (fun x hx => ⟨false, by simp [Lk3.D]⟩) (by simp; omega)]
    rfl
  have q1 := eq_rw row
  have q2 := eq_ls ls
  refine def_rt (s := ⟨[some (false, pl P), some (false, s.d), some (false, .tup [rw_ row, ls_ ls]), some (false, rw_ row), none, some (false, ls_ ls), none, some (false, pl P), some (false, lo.d), none], ob⟩) ?_ rfl
  refine seq_nx (s1 := ⟨[some (false, pl P), some (false, s.d), some (false, .tup [rw_ row, ls_ ls]), some (true, rw_ row), none, none, none, none, none, none], ob⟩) (by simp [c1]) ?_
  refine seq_nx (s1 := ⟨[some (false, pl P), some (false, s.d), some (false, .tup [rw_ row, ls_ ls]), some (true, rw_ row), none, some (true, ls_ ls), none, none, none, none], ob⟩) (by simp [c2]) ?_
  refine seq_nx (s1 := ⟨[some (false, pl P), some (false, s.d), some (false, .tup [rw_ row, ls_ ls]), some (true, rw_ row), none, some (true, ls_ ls), none, some (true, pl P), none, none], ob⟩) (by simp) ?_
  refine seq_nx (s1 := ⟨[some (false, pl P), some (false, s.d), some (false, .tup [rw_ row, ls_ ls]), some (true, rw_ row), none, some (true, ls_ ls), none, some (true, pl P), some (false, lo.d), none], ob⟩) (by simp [Spn.d, e1]) ?_
  refine seq_nx (s1 := ⟨[some (false, pl P), some (false, s.d), some (false, .tup [rw_ row, ls_ ls]), some (false, rw_ row), none, some (false, ls_ ls), none, some (false, pl P), some (false, lo.d), some (false, .bl B)], ob⟩) (by simp [Spn.d, e2, e3]) ?_
  refine seq_nx (s1 := ⟨[some (false, pl P), some (false, s.d), some (false, .tup [rw_ row, ls_ ls]), some (false, rw_ row), none, some (false, ls_ ls), none, some (false, pl P), some (false, lo.d), some (false, .bl B)], ob⟩) (by simp [q1, q2]) ?_
  exact seq_rt (by simp)
/-! ### sizes -/
theorem quoLoop_bt {q : List Int} {l : Int} {d Y M : Nat} (hq : q.length = d + 1) (hl : ic q d = l) (h0 : l ≠ 0) (hY : btl Y q) : ∀ (n B : Nat) (r u : List Int), n + d ≤ r.length → B + n * (Y + 1) ≤ M → Sc l n B r → btl M u → btl M (quoLoop q l n r u)
  | 0, B, r, u, _, _, _, hu => hu
  | n + 1, B, r, u, hr, hM, hs, hu => by
    obtain ⟨s1, s2⟩ := sc_step (k := n) hq hl h0 hY (r := r) (by omega) hs
    rw [Nat.succ_mul] at hM
    have hnY : n * Y ≤ n * (Y + 1) := Nat.mul_le_mul_left n (by omega)
    refine quoLoop_bt hq hl h0 hY n (B + Y + 1) (divStep q l n r) _ (by rw [divStep_len]; omega) (by omega) s1 ?_
    rw [hq, Nat.add_sub_cancel]
    intro x hx
    rcases List.mem_or_eq_of_mem_set hx with h | h
    · exact hu x h
    · rw [h]
      exact s2.mono (by omega)
theorem quo_bt {p q : List Int} {l : Int} {X Y : Nat} (hl : q.getLast? = some l) (h0 : l ≠ 0) (hle : q.length ≤ p.length) (hX : btl X p) (hY : btl Y q) : btl (X + (p.length - q.length + 1) * (Y + 1)) (quo p q l) := by
  obtain ⟨d, hd, hc⟩ := last_ic hl
  exact quoLoop_bt hd hc h0 hY (p.length - q.length + 1) X _ _ (by simp; omega) (Nat.le_refl _) (sc_start hX _) fun x hx => by
    rw [(List.mem_replicate.mp hx).2]
    exact bt.zero _
theorem pap_few : ∀ (k : Nat) (A B : List Int) (X Y : Nat), Two A B → fits (k + 1) A.length B.length X Y = true → btl X A → btl Y B → A.length ≤ 100 → (∀ p ∈ (pap k A B).1, btl 8900 p ∧ p.length ≤ 100) ∧ (∀ l ∈ (pap k A B).2, btl 8900 l.q ∧ l.q.length ≤ 100 ∧ bt 8901 l.f ∧ bt 8900 l.d)
  | 0, A, B, X, Y, h, hf, hX, hY, hl => by
    have f1 := fits_1 hf
    have hY1 : Y + 1 ≤ (A.length - B.length + 1) * (Y + 1) := Nat.le_mul_of_pos_left _ (by omega)
    have hlt := h.lt
    refine ⟨fun p hp => ?_, fun l hl => absurd hl (by simp [pap])⟩
    rcases List.mem_cons.mp hp with rfl | hp
    · exact ⟨hX.mono (by omega), hl⟩
    · rw [List.mem_singleton.mp hp]
      exact ⟨hY.mono (by omega), by omega⟩
  | k + 1, A, B, X, Y, h, hf, hX, hY, hl => by
    have f1 := fits_1 hf
    have hY1 : Y + 1 ≤ (A.length - B.length + 1) * (Y + 1) := Nat.le_mul_of_pos_left _ (by omega)
    have hlt := h.lt
    unfold pap
    split
    · refine ⟨fun p hp => ?_, fun l hl => absurd hl (by simp)⟩
      rcases List.mem_cons.mp hp with rfl | hp
      · exact ⟨hX.mono (by omega), hl⟩
      · rw [List.mem_singleton.mp hp]
        exact ⟨hY.mono (by omega), by omega⟩
    · rename_i hr
      have hrl := h.rem_len
      have hlc := ldc_ok h.nB h.b0
      obtain ⟨i1, i2⟩ := pap_few k B (nxt A B) Y _ (h.next hr) (fits_2 hf (by rw [nxt_len]; exact hrl) (by rw [nxt_len]; exact List.length_pos_iff.mpr hr)) hY (nxt_bt h hr hX hY) (by omega)
      refine ⟨fun p hp => ?_, fun l hl => ?_⟩
      · rcases List.mem_cons.mp hp with rfl | hp
        · exact ⟨hX.mono (by omega), hl⟩
        · exact i1 p hp
      · rcases List.mem_cons.mp hl with rfl | hl
        · have bq := (quo_bt hlc.1 hlc.2 (by omega) hX hY).strip
          have hql : (quo A B (ldc B)).length = A.length - B.length + 1 := by
            unfold quo
            rw [quoLoop_len]
            simp
          have bl := (hY (ldc B) (List.mem_of_getLast? hlc.1)).abs.pow (A.length - B.length + 1)
          have hYY : (A.length - B.length + 1) * Y ≤ (A.length - B.length + 1) * (Y + 1) := Nat.mul_le_mul_left _ (by omega)
          refine ⟨bq.mono f1, ?_, bl.mono (by omega), ?_⟩
          · have := strip_le (quo A B (ldc B))
            show (strip (quo A B (ldc B))).length ≤ 100
            omega
          · have := gc_bt (nz_strip _) hr ((rst_bt hlc.1 hlc.2 (by omega) hX hY).strip)
            exact this.mono f1
        · exact i2 l hl
theorem scR_few : ∀ (ss : List Int) (row : List (List Int)), (∀ s ∈ ss, bt 63 s) → (∀ p ∈ row, btl 8900 p ∧ p.length ≤ 100) → ∀ p ∈ scR ss row, btl 9000 p ∧ p.length ≤ 100
  | [], _, _, _, p, hp => by simp [scR] at hp
  | s :: ss, [], _, _, p, hp => by simp [scR] at hp
  | s :: ss, A :: row, hs, hr, p, hp => by
    rcases List.mem_cons.mp hp with rfl | hp
    · have hA := hr A (List.mem_cons_self ..)
      refine ⟨fun x hx => ?_, by rw [mu, List.length_map]; exact hA.2⟩
      obtain ⟨y, hy, rfl⟩ := List.mem_map.mp hx
      exact ((hA.1 y hy).mul (hs s (List.mem_cons_self ..))).mono (by omega)
    · exact scR_few ss row (fun x hx => hs x (List.mem_cons_of_mem _ hx)) (fun x hx => hr x (List.mem_cons_of_mem _ hx)) p hp
theorem scL_few : ∀ (ss : List Int) (ls : List Lk3), (∀ s ∈ ss, bt 63 s) → (∀ l ∈ ls, btl 8900 l.q ∧ l.q.length ≤ 100 ∧ bt 8901 l.f ∧ bt 8900 l.d) → ∀ l ∈ scL ss ls, LkOk 1000000 l
  | [], _, _, _, l, hl => by simp [scL] at hl
  | [_], _, _, _, l, hl => by simp [scL] at hl
  | [_, _], _, _, _, l, hl => by simp [scL] at hl
  | _ :: _ :: _ :: _, [], _, _, l, hl => by simp [scL] at hl
  | a :: b :: c :: ss, m :: ls, hs, hm, l, hl => by
    rcases List.mem_cons.mp hl with rfl | hl
    · have pa := hs a (by simp)
      have pb := hs b (by simp)
      have pc := hs c (by simp)
      obtain ⟨h1, h2, h3, h4⟩ := hm m (List.mem_cons_self ..)
      refine ⟨⟨fun x hx => ?_, by simp; omega⟩, ((h3.mul pb).mul pc).mono (by omega), ((h4.mul pa).mul pb).mono (by omega)⟩
      obtain ⟨y, hy, rfl⟩ := List.mem_map.mp hx
      exact (((h1 y hy).mul pa).mul pc).mono (by omega)
    · exact scL_few (b :: c :: ss) ls (fun x hx => hs x (List.mem_cons_of_mem _ hx)) (fun x hx => hm x (List.mem_cons_of_mem _ hx)) l hl
end P87
set_option Elab.async false
set_option linter.all false
set_option maxRecDepth 100000
set_option maxHeartbeats 4000000
/-! the law's polynomial: its roots, its slope -/
namespace P87
open PySem L2 Ev C87 Pd Rl Qd
/-! ### lengths, last coefficients, bits -/
theorem muL_top {q : List Int} {d : Nat} (hq : q.length = d + 1) : ∀ (cs : List Int) (i : Nat) (r : List Int) (m : Nat), cs.length = m + 1 → i + cs.length + q.length ≤ r.length + 1 → ic (muL q i cs r) (i + m + d) = ic r (i + m + d) + ic cs m * ic q d
  | [], _, _, _, h, _ => by simp at h
  | [c], i, r, m, h, hl => by
    have : m = 0 := by simp at h; omega
    subst this
    show ic (subAt (-c) i q r) (i + 0 + d) = _
    simp at hl
    rw [ic_subAt _ _ _ _ _ (by omega), if_pos (by omega), show i + 0 + d - i = d by omega]
    show ic r (i + 0 + d) - -c * ic q d = ic r (i + 0 + d) + c * ic q d
    grind
  | c :: c2 :: cs, i, r, m, h, hl => by
    obtain ⟨m', rfl⟩ : ∃ m', m = m' + 1 := ⟨m - 1, by simp at h; omega⟩
    have hl2 : i + (cs.length + 2) + q.length ≤ r.length + 1 := hl
    have := muL_top hq (c2 :: cs) (i + 1) (adA c q i r) m' (by simp at h ⊢; omega) (by rw [adA_len]; simp; omega)
    show ic (muL q (i + 1) (c2 :: cs) (adA c q i r)) (i + (m' + 1) + d) = _
    rw [show i + (m' + 1) + d = i + 1 + m' + d by omega, this]
    unfold adA
    rw [ic_subAt _ _ _ _ _ (by omega), if_pos (by omega), ic_ge (p := q) (by omega)]
    show ic r (i + 1 + m' + d) - -c * 0 + ic (c2 :: cs) m' * ic q d = ic r (i + 1 + m' + d) + ic (c2 :: cs) m' * ic q d
    omega
theorem mulP_nz {p q : List Int} (hp : Nz p) (hq : Nz q) (p0 : p ≠ []) (q0 : q ≠ []) : Nz (mulP p q) := by
  rcases hp with hp | ⟨m, h1, h2⟩
  · exact absurd hp p0
  · rcases hq with hq | ⟨d, h3, h4⟩
    · exact absurd hq q0
    · have ml := mulP_len p0 q0
      refine .inr ⟨m + d, by omega, ?_⟩
      have := muL_top h3 p 0 (List.replicate (p.length + q.length - 1) 0) m h1 (by simp; omega)
      rw [mulP_eq p0 q0]
      rw [show 0 + m + d = m + d by omega] at this
      rw [this]
      have hz : ic (List.replicate (p.length + q.length - 1) (0 : Int)) (m + d) = 0 := by
        show ((List.replicate (p.length + q.length - 1) (0 : Int))[m + d]?).getD 0 = 0
        rw [List.getElem?_replicate]
        split <;> rfl
      rw [hz, Int.zero_add]
      exact Int.mul_ne_zero h2 h4
theorem fac_s0 (f : Fac) : f.s ≠ [] := fun z => by
  have := fac_slen f
  rw [z] at this
  simp at this
theorem prodL_spec : ∀ (fs : List Fac) (a : List Int) (K : Nat), (∀ f ∈ fs, f.ok) → Nz a → a ≠ [] → btl K a → K + fs.length * 20 ≤ 60 → a.length + 2 * fs.length ≤ 10 → Nz (prodL a fs) ∧ prodL a fs ≠ [] ∧ ((prodL a fs).length : Int) = a.length + dsum fs ∧ btl (K + fs.length * 20) (prodL a fs)
  | [], a, K, _, h1, h2, h3, _, _ => ⟨h1, h2, by simp [prodL, dsum], h3⟩
  | f :: r, a, K, h, h1, h2, h3, hK, hl => by
    have hK2 : K + (r.length + 1) * 20 ≤ 60 := hK
    have hl2 : a.length + 2 * (r.length + 1) ≤ 10 := hl
    have hf := h f (List.mem_cons_self ..)
    have nf := fac_nz hf
    have sl := fac_slen f
    have ml := mulP_len h2 (fac_s0 f)
    have m0 : mulP a f.s ≠ [] := fun z => by
      have := List.length_pos_iff.mpr h2
      rw [z] at ml
      simp at ml
      omega
    have mb : btl (K + 20) (mulP a f.s) := (mulP_bt h3 (shr_bt nf.1 nf.2 (fac_bt hf))).mono (by omega)
    obtain ⟨i1, i2, i3, i4⟩ := prodL_spec r (mulP a f.s) (K + 20) (fun g hg => h g (List.mem_cons_of_mem _ hg)) (mulP_nz h1 (shr_nz nf.1 nf.2) h2 (fac_s0 f)) m0 mb (by omega) (by omega)
    refine ⟨i1, i2, ?_, i4.mono (by show K + 20 + r.length * 20 ≤ K + (r.length + 1) * 20; omega)⟩
    show ((prodL (mulP a f.s) r).length : Int) = a.length + ((f.s.length : Int) - 1 + dsum r)
    rw [i3, ml]
    omega
/-! ### roots -/
theorem fac_root {f : Fac} (h : f.ok) (t x : R) : ipv f.s x = 0 ↔ ∃ o ∈ rt1 f, x = o.v t := by
  have hv := fac_s_val h x
  have gr := gc_r h
  have gi := mul_inv' (show ((gc f.p : Int) : R) ≠ 0 by grind)
  have h1 : ipv f.s x = 0 ↔ ipv f.p x = 0 := by
    rw [← hv]
    constructor
    · intro z
      rw [z]
      grind
    · intro z
      have : ipv f.s x = ((gc f.p : Int) : R)⁻¹ * (((gc f.p : Int) : R) * ipv f.s x) := by grind
      rw [this, z]
      grind
  rw [h1, fac_val]
  have br := b_r h
  have bi := mul_inv' (show (f.b : R) ≠ 0 by grind)
  have solve : ∀ y : R, (f.b : R) * x = y ↔ x = y * (f.b : R)⁻¹ := fun y => by
    constructor
    · intro z
      have : x = (f.b : R)⁻¹ * ((f.b : R) * x) := by grind
      rw [this, z]
      grind
    · intro z
      rw [z]
      grind
  unfold rt1 Fac.q
  by_cases e0 : f.e = 0
  · rw [if_pos e0, if_pos (by omega), if_neg (by omega), List.append_nil]
    have r0 : rs f.e = 0 := by
      have := (rs_spec (e := f.e) (by omega)).2
      rw [e0] at this ⊢
      rw [int_zero] at this
      by_cases c : rs 0 = 0
      · exact c
      · have ri := mul_inv' c
        have : rs 0 = (rs 0)⁻¹ * (rs 0 * rs 0) := by grind
        grind
    constructor
    · intro z
      refine ⟨_, List.mem_singleton.mpr rfl, ?_⟩
      show x = ((f.u : R) + ((1 : Int) : R) * rs f.e) * (f.b : R)⁻¹
      rw [r0, ← solve]
      grind
    · rintro ⟨o, ho, hx⟩
      rw [List.mem_singleton.mp ho] at hx
      have hx : x = ((f.u : R) + ((1 : Int) : R) * rs f.e) * (f.b : R)⁻¹ := hx
      rw [r0, ← solve] at hx
      grind
  · rw [if_neg e0]
    by_cases e1 : 0 ≤ f.e
    · rw [if_pos e1, if_pos (by omega)]
      obtain ⟨r0, rr⟩ := rs_spec e1
      rw [← rr]
      generalize hr : rs f.e = r at *
      have n1 : ((-1 : Int) : R) = -1 := by
        rw [show (-1 : Int) = -(1 : Int) from rfl, int_neg]
        rfl
      constructor
      · intro z
        have zz : ((f.b : R) * x - f.u - r) * ((f.b : R) * x - f.u + r) = 0 := by grind
        by_cases c : (f.b : R) * x - f.u - r = 0
        · refine ⟨.quad f.u f.e f.b 1, by simp, ?_⟩
          show x = ((f.u : R) + ((1 : Int) : R) * rs f.e) * (f.b : R)⁻¹
          rw [hr, ← solve, int_one]
          grind
        · have ci := mul_inv' c
          have : (f.b : R) * x - f.u + r = ((f.b : R) * x - f.u - r)⁻¹ * (((f.b : R) * x - f.u - r) * ((f.b : R) * x - f.u + r)) := by grind
          rw [zz] at this
          refine ⟨.quad f.u f.e f.b (-1), by simp, ?_⟩
          show x = ((f.u : R) + ((-1 : Int) : R) * rs f.e) * (f.b : R)⁻¹
          rw [hr, ← solve, n1]
          grind
      · rintro ⟨o, ho, hx⟩
        rcases List.mem_append.mp ho with ho | ho
        · rw [List.mem_singleton.mp ho] at hx
          have hx : x = ((f.u : R) + ((1 : Int) : R) * rs f.e) * (f.b : R)⁻¹ := hx
          rw [hr, ← solve, int_one] at hx
          rw [hx]
          grind
        · rw [List.mem_singleton.mp ho] at hx
          have hx : x = ((f.u : R) + ((-1 : Int) : R) * rs f.e) * (f.b : R)⁻¹ := hx
          rw [hr, ← solve, n1] at hx
          rw [hx]
          grind
    · rw [if_neg e1, if_neg (by omega)]
      constructor
      · intro z
        have := sq_nn ((f.b : R) * x - f.u)
        have en := int_lt.mpr (show f.e < 0 by omega)
        rw [int_zero] at en
        grind
      · rintro ⟨o, ho, _⟩
        simp at ho
theorem mul_zero_iff {x y : R} : x * y = 0 ↔ x = 0 ∨ y = 0 := by
  constructor
  · intro h
    by_cases c : x = 0
    · exact .inl c
    · have ci := mul_inv' c
      right
      have : y = x⁻¹ * (x * y) := by grind
      rw [this, h]
      grind
  · rintro (h | h) <;> rw [h] <;> grind
theorem prodL_root : ∀ (fs : List Fac) (a : List Int) (t x : R), (∀ f ∈ fs, f.ok) → (ipv (prodL a fs) x = 0 ↔ ipv a x = 0 ∨ ∃ o ∈ rts fs, x = o.v t)
  | [], a, t, x, _ => by simp [prodL, rts]
  | f :: r, a, t, x, h => by
    show ipv (prodL (mulP a f.s) r) x = 0 ↔ _
    rw [prodL_root r (mulP a f.s) t x (fun g hg => h g (List.mem_cons_of_mem _ hg)), ipv_mulP, mul_zero_iff, fac_root (h f (List.mem_cons_self ..)) t]
    constructor
    · rintro ((z | ⟨o, ho, hx⟩) | ⟨o, ho, hx⟩)
      · exact .inl z
      · exact .inr ⟨o, List.mem_append.mpr (.inl ho), hx⟩
      · exact .inr ⟨o, List.mem_append.mpr (.inr ho), hx⟩
    · rintro (z | ⟨o, ho, hx⟩)
      · exact .inl (.inl z)
      · rcases List.mem_append.mp ho with ho | ho
        · exact .inl (.inr ⟨o, ho, hx⟩)
        · exact .inr ⟨o, ho, hx⟩
/-! ### no common parts -/
theorem fs_pv {f : Fac} (h : f.ok) (x : R) : pv (ri f.s) x = pv (psm (((gc f.p : Int) : R)⁻¹) (ri f.p)) x := by
  have gr := gc_r h
  have gi := mul_inv' (show ((gc f.p : Int) : R) ≠ 0 by grind)
  rw [pv_psm]
  show ipv f.s x = _ * ipv f.p x
  rw [← fac_s_val h x]
  grind
theorem gi_ne {f : Fac} (h : f.ok) : (((gc f.p : Int) : R)⁻¹) ≠ 0 := fun z => by
  have gr := gc_r h
  have gi := mul_inv' (show ((gc f.p : Int) : R) ≠ 0 by grind)
  rw [z] at gi
  have := one_pos
  grind
theorem cop_to_s {f : Fac} (h : f.ok) {B : List R} (k : Cop B (ri f.p)) : Cop B (ri f.s) := (k.scale (gi_ne h)).ext (fun _ => rfl) (fs_pv h)
theorem cop_ss {f g : Fac} (hf : f.ok) (hg : g.ok) (hs : f.s ≠ g.s) : Cop (ri f.s) (ri g.s) := cop_to_s hg ((cop_to_s hf (cop_fac hg hf (Ne.symm hs))).symm)
theorem cop_s_self {f : Fac} (h : f.ok) : Cop (ri f.s) (dl (ri f.s)) := by
  have k := cop_to_s h (cop_fac_self h).symm
  -- Cop (dl p) s
  refine ((k.symm).scale (gi_ne h)).ext (fun _ => rfl) fun x => ?_
  rw [pv_dl, pv_psm, pv_dl]
  have := dpv_ext (p := ri f.s) (q := psm (((gc f.p : Int) : R)⁻¹) (ri f.p)) (fun x _ => fs_pv h x) x
  rw [this, dpv_psm]
theorem cop_s_cb {f : Fac} (hf : f.ok) {u : Cb} {t : R} (ht : t * t * t = (u.m : R)) (h0 : 0 < t) (hu : u.ok) : Cop (ri f.s) (ri u.p) := (cop_to_s hf (cop_cb_fac ht hu h0 hf)).symm
theorem ri_mulP (p q : List Int) (x : R) : pv (ri (mulP p q)) x = pv (pmul (ri p) (ri q)) x := by
  rw [pv_pmul]
  exact ipv_mulP p q x
theorem cop_mulP {a b : List Int} (ha : Cop (ri a) (dl (ri a))) (hb : Cop (ri b) (dl (ri b))) (hab : Cop (ri a) (ri b)) : Cop (ri (mulP a b)) (dl (ri (mulP a b))) := by
  refine (cop_slope ha hb hab).ext (ri_mulP a b) fun x => ?_
  rw [pv_dl, pv_dl]
  exact dpv_ext (fun x _ => ri_mulP a b x) x
theorem prodL_cop : ∀ (fs : List Fac) (a : List Int), (∀ f ∈ fs, f.ok) → fs.Pairwise (fun f g => f.s ≠ g.s) → Cop (ri a) (dl (ri a)) → (∀ f ∈ fs, Cop (ri a) (ri f.s)) → Cop (ri (prodL a fs)) (dl (ri (prodL a fs)))
  | [], a, _, _, h, _ => h
  | f :: r, a, ok, pw, h, k => by
    have hf := ok f (List.mem_cons_self ..)
    obtain ⟨p1, p2⟩ := List.pairwise_cons.mp pw
    refine prodL_cop r (mulP a f.s) (fun g hg => ok g (List.mem_cons_of_mem _ hg)) p2 (cop_mulP h (cop_s_self hf) (k f (List.mem_cons_self ..))) fun g hg => ?_
    exact ((k g (List.mem_cons_of_mem _ hg)).mul (cop_ss hf (ok g (List.mem_cons_of_mem _ hg)) (p1 g hg))).ext (ri_mulP a f.s) (fun _ => rfl)
theorem prodL_cop2 {B : List R} : ∀ (fs : List Fac) (a : List Int), Cop (ri a) B → (∀ f ∈ fs, Cop (ri f.s) B) → Cop (ri (prodL a fs)) B
  | [], a, h, _ => h
  | f :: r, a, h, k => prodL_cop2 r (mulP a f.s) ((h.mul (k f (List.mem_cons_self ..))).ext (ri_mulP a f.s) (fun _ => rfl)) fun g hg => k g (List.mem_cons_of_mem _ hg)
theorem cop_1 (B : List R) : Cop (ri [1]) B := by
  have h : ((1 : Int) : R) ≠ 0 := int_ne.mpr (by omega)
  exact (cop_const B h).symm
/-! ### spots apart -/
theorem pw_ne : ∀ (fs : List Fac), fs.Pairwise (fun f g => f.s ≠ g.s) → ∀ f ∈ fs, ∀ g ∈ fs, f ≠ g → f.s ≠ g.s
  | [], _, f, hf, _, _, _ => by simp at hf
  | a :: r, pw, f, hf, g, hg, hne => by
    obtain ⟨p1, p2⟩ := List.pairwise_cons.mp pw
    rcases List.mem_cons.mp hf with e1 | hf'
    · rcases List.mem_cons.mp hg with e2 | hg'
      · exact absurd (e1.trans e2.symm) hne
      · rw [e1]
        exact p1 g hg'
    · rcases List.mem_cons.mp hg with e2 | hg'
      · rw [e2]
        exact Ne.symm (p1 f hf')
      · exact pw_ne r p2 f hf' g hg' hne
theorem mem_rts {o : Spot} : ∀ {fs : List Fac}, o ∈ rts fs ↔ ∃ f ∈ fs, o ∈ rt1 f
  | [] => by simp [rts]
  | f :: r => by
    show o ∈ rt1 f ++ rts r ↔ _
    rw [List.mem_append, mem_rts (fs := r)]
    simp
theorem mem_rt1 {o : Spot} {f : Fac} (h : o ∈ rt1 f) : (o = .quad f.u f.e f.b 1 ∧ 0 ≤ f.e) ∨ (o = .quad f.u f.e f.b (-1) ∧ 0 < f.e) := by
  unfold rt1 at h
  rcases List.mem_append.mp h with h | h
  · split at h
    · rename_i c
      exact .inl ⟨List.mem_singleton.mp h, c⟩
    · simp at h
  · split at h
    · rename_i c
      exact .inr ⟨List.mem_singleton.mp h, c⟩
    · simp at h
theorem rts_ok {fs : List Fac} (h : ∀ f ∈ fs, f.ok) (m : Int) : ∀ o ∈ rts fs, o.ok m := fun o ho => by
  obtain ⟨f, hf, ho⟩ := mem_rts.mp ho
  rcases mem_rt1 ho with ⟨rfl, c⟩ | ⟨rfl, c⟩
  · exact qok (h f hf) c (.inl rfl)
  · exact qok (h f hf) (by omega) (.inr rfl)
theorem big_mono {x : R} (h : Far 9600000 x) : Far 57600000000 x := by
  have := one_pos
  exact h.mono (by grind) (by grind)
theorem rts_apart {room : Int} {fs : List Fac} (h : FIn fs room) (t : R) (m : Int) : Apart t m (rts fs) := by
  refine ⟨rts_ok h.ok m, fun o ho q hq hne => big_mono ?_⟩
  obtain ⟨f, hf, ho⟩ := mem_rts.mp ho
  obtain ⟨g, hg, hq⟩ := mem_rts.mp hq
  by_cases c : f = g
  · subst c
    have ok := h.ok f hf
    rcases mem_rt1 ho with ⟨rfl, c1⟩ | ⟨rfl, c1⟩
    · rcases mem_rt1 hq with ⟨rfl, c2⟩ | ⟨rfl, c2⟩
      · exact absurd rfl hne
      · exact sep_ff ok c2 t
    · rcases mem_rt1 hq with ⟨rfl, c2⟩ | ⟨rfl, c2⟩
      · have := (sep_ff ok c1 t).neg
        rw [show -((Spot.quad f.u f.e f.b 1).v t - (Spot.quad f.u f.e f.b (-1)).v t) = (Spot.quad f.u f.e f.b (-1)).v t - (Spot.quad f.u f.e f.b 1).v t by grind] at this
        exact this
      · exact absurd rfl hne
  · have hs := pw_ne fs h.ne f hf g hg c
    rcases mem_rt1 ho with ⟨rfl, c1⟩ | ⟨rfl, c1⟩ <;> rcases mem_rt1 hq with ⟨rfl, c2⟩ | ⟨rfl, c2⟩
    · exact sep_qq (h.ok f hf) (h.ok g hg) c1 c2 hs (.inl rfl) (.inl rfl) t
    · exact sep_qq (h.ok f hf) (h.ok g hg) c1 (by omega) hs (.inl rfl) (.inr rfl) t
    · exact sep_qq (h.ok f hf) (h.ok g hg) (by omega) c2 hs (.inr rfl) (.inl rfl) t
    · exact sep_qq (h.ok f hf) (h.ok g hg) (by omega) (by omega) hs (.inr rfl) (.inr rfl) t
theorem cb_apart {room : Int} {fs : List Fac} (h : FIn fs room) {u : Cb} {t : R} (ht : t * t * t = (u.m : R)) (h0 : 0 < t) (hu : u.ok) : Apart t u.m (rts fs ++ [.cub u]) := by
  have A := rts_apart h t u.m
  have key : ∀ o ∈ rts fs, Far 57600000000 ((Spot.cub u).v t - o.v t) := fun o ho => by
    obtain ⟨f, hf, ho⟩ := mem_rts.mp ho
    rcases mem_rt1 ho with ⟨rfl, c1⟩ | ⟨rfl, c1⟩
    · exact sep_cq ht h0 hu (h.ok f hf) c1 (.inl rfl)
    · exact sep_cq ht h0 hu (h.ok f hf) (by omega) (.inr rfl)
  refine ⟨fun o ho => ?_, fun o ho q hq hne => ?_⟩
  · rcases List.mem_append.mp ho with ho | ho
    · exact A.ok o ho
    · rw [List.mem_singleton.mp ho]
      exact ⟨hu, rfl⟩
  · rcases List.mem_append.mp ho with ho | ho
    · rcases List.mem_append.mp hq with hq | hq
      · exact A.far o ho q hq hne
      · rw [List.mem_singleton.mp hq]
        have := (key o ho).neg
        rw [show -((Spot.cub u).v t - o.v t) = o.v t - (Spot.cub u).v t by grind] at this
        exact this
    · rw [List.mem_singleton.mp ho] at hne ⊢
      rcases List.mem_append.mp hq with hq | hq
      · exact key q hq
      · rw [List.mem_singleton.mp hq] at hne
        exact absurd rfl hne
end P87
set_option Elab.async false
set_option linter.all false
set_option maxRecDepth 100000
set_option maxHeartbeats 4000000
/-! the law: its polynomial, its scales -/
namespace P87
open PySem L2 Ev C87 Pd Rl Qd
structure Kp (P : List Int) (t : R) (m : Int) (L : List Spot) : Prop where
  t0 : 0 < t
  tm : t * t * t = (m : R)
  nz : Nz P
  l1 : 2 ≤ P.length
  l2 : P.length ≤ 6
  b : btl 57 P
  r : Roots t P L
  ap : Apart t m L
  cop : Cop (ri P) (dl (ri P))
theorem Kp.ne {P : List Int} {t : R} {m : Int} {L : List Spot} (h : Kp P t m L) : P ≠ [] := fun z => by
  have := h.l1
  rw [z] at this
  simp at this
theorem Kp.sne {P : List Int} {t : R} {m : Int} {L : List Spot} (h : Kp P t m L) : slp P ≠ [] := fun z => by
  have e := slp_len P
  rw [z, List.length_nil] at e
  have := h.l1
  omega
theorem Kp.two {P : List Int} {t : R} {m : Int} {L : List Spot} (h : Kp P t m L) : Two P (shr (slp P)) := by
  have e : (shr (slp P)).length = P.length - 1 := by rw [shr_len, slp_len]
  refine ⟨h.nz, shr_nz (slp_nz h.nz) h.sne, fun z => ?_, by have := h.l1; omega⟩
  rw [z] at e
  have := h.l1
  simp at e
  omega
theorem Kp.sb {P : List Int} {t : R} {m : Int} {L : List Spot} (h : Kp P t m L) : btl 60 (slp P) := btl_of_ic fun i => by
  rw [ic_slp]
  by_cases c : i + 1 < P.length
  · have := h.l2
    exact ((bt_of 3 (by omega) (by omega)).mul (h.b.ic (i + 1))).mono (by omega)
  · rw [ic_ge (p := P) (by omega), Int.mul_zero]
    exact bt.zero _
theorem Kp.fit {P : List Int} {t : R} {m : Int} {L : List Spot} (h : Kp P t m L) : fits P.length P.length (P.length - 1) 57 60 = true := by
  have h1 := h.l1
  have h2 := h.l2
  have : P.length = 2 ∨ P.length = 3 ∨ P.length = 4 ∨ P.length = 5 ∨ P.length = 6 := by omega
  rcases this with e | e | e | e | e <;> rw [e] <;> decide
theorem kpA {room : Int} {fs : List Fac} (h : FIn fs room) {u : Cb} {t : R} (ht : t * t * t = (u.m : R)) (h0 : 0 < t) (hu : u.ok) : Kp (mulP (prodL [1] fs) u.p) t u.m (rts fs ++ [.cub u]) := by
  have hd := dsum_ge fs
  have hs := h.sum
  have hn := h.nn
  obtain ⟨i1, i2, i3, i4⟩ := prodL_spec fs [1] 1 h.ok (nz_of_last (l := 1) rfl (by omega)) (by simp) (btl_of 1 (by simp)) (by omega) (by simp; omega)
  have up0 : u.p ≠ [] := by simp [Cb.p]
  have ul : u.p.length = 4 := rfl
  have un : Nz u.p := nz_of_last (l := 1) rfl (by omega)
  have ml := mulP_len i2 up0
  have i3' : ((prodL [1] fs).length : Int) = 1 + dsum fs := i3
  refine ⟨h0, ht, mulP_nz i1 un i2 up0, by omega, by omega, (mulP_bt i4 (cube_bt hu)).mono (by omega), fun z => ?_, cb_apart h ht h0 hu, ?_⟩
  · rw [ipv_mulP, mul_zero_iff, prodL_root fs [1] t z h.ok, cb_root ht hu h0]
    have one : ipv [1] z ≠ 0 := by
      rw [ipv_cons, ipv_nil, int_one]
      have := one_pos
      grind
    constructor
    · rintro ((w | ⟨o, ho, hx⟩) | hx)
      · exact absurd w one
      · exact ⟨o, List.mem_append.mpr (.inl ho), hx⟩
      · exact ⟨.cub u, List.mem_append.mpr (.inr (List.mem_singleton.mpr rfl)), hx⟩
    · rintro ⟨o, ho, hx⟩
      rcases List.mem_append.mp ho with ho | ho
      · exact .inl (.inr ⟨o, ho, hx⟩)
      · rw [List.mem_singleton.mp ho] at hx
        exact .inr hx
  · exact cop_mulP (prodL_cop fs [1] h.ok h.ne (cop_1 _) fun f hf => cop_1 _) (cop_cb_self ht hu h0) (prodL_cop2 fs [1] (cop_1 _) fun f hf => cop_s_cb (h.ok f hf) ht h0 hu)
theorem kpB {room : Int} {fs : List Fac} (h : FIn fs room) (hne : rts fs ≠ []) {t : R} {m : Int} (ht : t * t * t = (m : R)) (h0 : 0 < t) : Kp (prodL [1] fs) t m (rts fs) := by
  have hd := dsum_ge fs
  have hs := h.sum
  have hn := h.nn
  have fl : 0 < fs.length := by
    cases fs with
    | nil => exact absurd rfl hne
    | cons f r => simp
  obtain ⟨i1, i2, i3, i4⟩ := prodL_spec fs [1] 1 h.ok (nz_of_last (l := 1) rfl (by omega)) (by simp) (btl_of 1 (by simp)) (by omega) (by simp; omega)
  have i3' : ((prodL [1] fs).length : Int) = 1 + dsum fs := i3
  refine ⟨h0, ht, i1, by omega, by omega, i4.mono (by omega), fun z => ?_, rts_apart h t m, prodL_cop fs [1] h.ok h.ne (cop_1 _) fun f hf => cop_1 _⟩
  rw [prodL_root fs [1] t z h.ok]
  have one : ipv [1] z ≠ 0 := by
    rw [ipv_cons, ipv_nil, int_one]
    have := one_pos
    grind
  exact ⟨fun w => w.resolve_left one, .inr⟩
/-! ### scales -/
structure Sca (k : Nat) (acc : List Int) : Prop where
  l : acc.length = k
  s : ∀ s ∈ acc, 1 ≤ s ∧ s ≤ 5
  o : ∀ i, i < 2 → i < k → acc[i]? = some 1
theorem scales_for (n : Nat) (ob : List OE) (z0 z1 z2 z3 z4 z5 z6 z7 z8 z9 z11 z12 z15 z16 z17 : Option (Bool × D)) : ∀ (j k : Nat) (acc : List Int) (left : Int) (o10 : Option (Bool × D)), Sca k acc → k + j < 1000 → ∃ acc' left' o10', Sca (k + j) acc' ∧
    forR (fun d s => (setD 10 (false, d) s).bind (evS (tab C87.t.lw n) (.seq (.ex (.app 14 (.bin .Add (.con (.int 1)) (.bin .Mult (.bin .Mod (.var 13) (.con (.int 5))) (.b1 .int (.cmp .Gt (.var 10) (.con (.int 1))))))))
    (.seq (.asg 13 (.bin .FloorDiv (.var 13) (.con (.int 5))))
    (.nil))))) ((List.range' k j).map fun i : Nat => D.int (i : Int)) ⟨[z0, z1, z2, z3, z4, z5, z6, z7, z8, z9, o10, z11, z12, some (false, .int left), some (true, pl acc), z15, z16, z17], ob⟩ =
      some (.nx ⟨[z0, z1, z2, z3, z4, z5, z6, z7, z8, z9, o10', z11, z12, some (false, .int left'), some (true, pl acc'), z15, z16, z17], ob⟩)
  | 0, k, acc, left, o10, h, _ => ⟨acc, left, o10, h, rfl⟩
  | j + 1, k, acc, left, o10, h, hk => by
    have hm := fmod_rng left (m := 5) (by omega)
    have d5 : Builtin.divisionGoesByPylong left 5 = false := divOk (smK 5 (by omega))
    have l1 : acc.length < 16777216 := by have := h.l; omega
    have m0 : IntMulOk (left.fmod 5) 0 := mulR (smK 0 (by omega))
    have m1 : IntMulOk (left.fmod 5) 1 := mulR (smK 1 (by omega))
    obtain ⟨x, hx, ev⟩ : ∃ x : Int, (1 ≤ x ∧ x ≤ 5 ∧ (k < 2 → x = 1)) ∧ (setD 10 (false, .int k) ⟨[z0, z1, z2, z3, z4, z5, z6, z7, z8, z9, o10, z11, z12, some (false, .int left), some (true, pl acc), z15, z16, z17], ob⟩).bind (evS (tab C87.t.lw n) (.seq (.ex (.app 14 (.bin .Add (.con (.int 1)) (.bin .Mult (.bin .Mod (.var 13) (.con (.int 5))) (.b1 .int (.cmp .Gt (.var 10) (.con (.int 1))))))))
    (.seq (.asg 13 (.bin .FloorDiv (.var 13) (.con (.int 5))))
    (.nil)))) = some (.nx ⟨[z0, z1, z2, z3, z4, z5, z6, z7, z8, z9, some (false, .int k), z11, z12, some (false, .int (left.fdiv 5)), some (true, pl (acc ++ [x])), z15, z16, z17], ob⟩) := by
      by_cases c : 1 < k
      · refine ⟨1 + left.fmod 5, ⟨by omega, by omega, by omega⟩, ?_⟩
        have c' : (1 : Int) < (k : Int) := by omega
        simp [c, c', m1, d5, l1, len_intl, intl]
      · refine ⟨1, ⟨by omega, by omega, fun _ => rfl⟩, ?_⟩
        have c' : ¬ (1 : Int) < (k : Int) := by omega
        simp [c, c', m0, d5, l1, len_intl, intl]
    have h2 : Sca (k + 1) (acc ++ [x]) := by
      refine ⟨by simp [h.l], fun s hs => ?_, fun i hi hik => ?_⟩
      · rcases List.mem_append.mp hs with hs | hs
        · exact h.s s hs
        · rw [List.mem_singleton.mp hs]
          exact ⟨hx.1, hx.2.1⟩
      · by_cases c : i < k
        · rw [List.getElem?_append_left (by rw [h.l]; exact c)]
          exact h.o i hi c
        · have : i = k := by omega
          subst this
          rw [List.getElem?_append_right (by rw [h.l]; omega), h.l, Nat.sub_self, hx.2.2 hi]
          rfl
    obtain ⟨acc', left', o10', h3, e⟩ := scales_for n ob z0 z1 z2 z3 z4 z5 z6 z7 z8 z9 z11 z12 z15 z16 z17 j (k + 1) (acc ++ [x]) (left.fdiv 5) (some (false, .int k)) h2 (by omega)
    refine ⟨acc', left', o10', by rw [show k + (j + 1) = k + 1 + j by omega]; exact h3, ?_⟩
    rw [List.range'_succ, List.map_cons, forR_cons, ev, thenO_nx]
    exact e
theorem sca_two {k : Nat} {acc : List Int} (h : Sca k acc) (hk : 2 ≤ k) : ∃ r, acc = 1 :: 1 :: r ∧ ∀ s ∈ r, 1 ≤ s ∧ s ≤ 5 := by
  have h0 := h.o 0 (by omega) (by omega)
  have h1 := h.o 1 (by omega) (by omega)
  have hs := h.s
  match acc, h0, h1, hs with
  | a :: b :: r, h0, h1, hs =>
    have ha : a = 1 := by simpa using h0
    have hb : b = 1 := by simpa using h1
    subst ha
    subst hb
    exact ⟨r, rfl, fun s hs' => hs s (List.mem_cons_of_mem _ (List.mem_cons_of_mem _ hs'))⟩
end P87
set_option Elab.async false
set_option linter.all false
set_option maxRecDepth 100000
set_option maxHeartbeats 4000000
/-! the law -/
namespace P87
open PySem L2 Ev C87 Pd Rl Qd
def tailS : MS := .seq (.asg 7 (.call 41 (.acons (.var 5) (.acons (.var 6) (.acons (.bin .Mod (.bin .FloorDiv (.var 1) (.con (.int 3))) (.con (.int 9))) (.anil))))))
    (.seq (.asg 8 (.call 40 (.acons (.var 4) (.anil))))
    (.seq (.asg 9 (.call 31 (.acons (.slc (.compt (.bin .Mult (.var 10) (.var 11)) [10, 11] (.enm (.var 4)) (.anil)) (.con (.int 1)) (.anil)) (.anil))))
    (.seq (.asg 12 (.bin .Mod (.bin .FloorDiv (.var 1) (.con (.int 27))) (.con (.int 4))))
    (.seq (.asg 13 (.call 39 (.acons (.var 0) (.acons (.con (.int 4)) (.anil)))))
    (.seq (.asg 14 (.lst (.anil)))
    (.seq (.forn 10 (.rng1 (.b1 .len (.idx (.var 8) (.con (.int 0))))) (.seq (.ex (.app 14 (.bin .Add (.con (.int 1)) (.bin .Mult (.bin .Mod (.var 13) (.con (.int 5))) (.b1 .int (.cmp .Gt (.var 10) (.con (.int 1))))))))
    (.seq (.asg 13 (.bin .FloorDiv (.var 13) (.con (.int 5))))
    (.nil))))
    (.seq (.ite (.cmp .Eq (.var 12) (.con (.int 1))) (.seq (.sub 14 (.con (.int 0)) (.bin .Add (.con (.int 2)) (.bin .Mod (.call 39 (.acons (.var 0) (.acons (.con (.int 5)) (.anil)))) (.con (.int 4)))))
    (.nil)) (.nil))
    (.seq (.ite (.cmp .Eq (.var 12) (.con (.int 2))) (.seq (.sub 14 (.con (.int 1)) (.bin .Add (.con (.int 2)) (.bin .Mod (.call 39 (.acons (.var 0) (.acons (.con (.int 5)) (.anil)))) (.con (.int 4)))))
    (.nil)) (.nil))
    (.seq (.ite (.cmp .Eq (.var 12) (.con (.int 3))) (.seq (.sub 14 (.con (.int 1)) (.var 9))
    (.nil)) (.nil))
    (.seq (.asg 15 (.and (.cmp .Eq (.idx (.var 14) (.con (.int 0))) (.con (.int 1))) (.cmp .Eq (.idx (.var 14) (.con (.int 1))) (.con (.int 1)))))
    (.seq (.asg 16 (.call 38 (.acons (.var 8) (.acons (.var 14) (.anil)))))
    (.seq (.asgc 17 (.comp (.call 37 (.acons (.var 4) (.acons (.var 7) (.acons (.var 11) (.anil))))) 11 (.tup (.acons (.var 16) (.acons (.var 8) (.acons (.var 16) (.anil))))) (.anil)))
    (.seq (.forn 11 (.var 17) (.seq (.ite (.not (.isi .bool (.var 11))) (.seq (.ret (.con (.bool false)))
    (.nil)) (.nil))
    (.nil)))
    (.seq (.ret (.cmp .Eq (.var 17) (.lst (.acons (.var 15) (.acons (.con (.bool true)) (.acons (.var 15) (.anil)))))))
    (.nil)))))))))))))))
theorem pap_len : ∀ (k : Nat) (A B : List Int), (pap k A B).1.length ≤ k + 2
  | 0, A, B => Nat.le_refl 2
  | k + 1, A, B => by
    unfold pap
    split
    · show 2 ≤ k + 1 + 2
      omega
    · have := pap_len k B (nxt A B)
      show (pap k B (nxt A B)).1.length + 1 ≤ k + 1 + 2
      omega
theorem sm1 {x : Int} (h : 1 ≤ x) (h2 : x ≤ 5) : sm x := ⟨by omega, by omega⟩
def tail3 : MS := .seq (.asg 15 (.and (.cmp .Eq (.idx (.var 14) (.con (.int 0))) (.con (.int 1))) (.cmp .Eq (.idx (.var 14) (.con (.int 1))) (.con (.int 1)))))
    (.seq (.asg 16 (.call 38 (.acons (.var 8) (.acons (.var 14) (.anil)))))
    (.seq (.asgc 17 (.comp (.call 37 (.acons (.var 4) (.acons (.var 7) (.acons (.var 11) (.anil))))) 11 (.tup (.acons (.var 16) (.acons (.var 8) (.acons (.var 16) (.anil))))) (.anil)))
    (.seq (.forn 11 (.var 17) (.seq (.ite (.not (.isi .bool (.var 11))) (.seq (.ret (.con (.bool false)))
    (.nil)) (.nil))
    (.nil)))
    (.seq (.ret (.cmp .Eq (.var 17) (.lst (.acons (.var 15) (.acons (.con (.bool true)) (.acons (.var 15) (.anil)))))))
    (.nil)))))
theorem eq_due (B : Bool) : eqD (.lst [.bl B, .bl true, .bl B]) (.lst [.bl B, .bl true, .bl B]) = some true := by
  cases B <;> rfl
theorem scL_len : ∀ (ls : List Lk3) (ss : List Int), (scL ss ls).length ≤ ls.length
  | [], [] => by simp [scL]
  | [], [_] => by simp [scL]
  | [], [_, _] => by simp [scL]
  | [], _ :: _ :: _ :: _ => by simp [scL]
  | _ :: _, [] => by simp [scL]
  | _ :: _, [_] => by simp [scL]
  | _ :: _, [_, _] => by simp [scL]
  | l :: ls, a :: b :: c :: r => by
    have := scL_len ls (b :: c :: r)
    simp [scL]
    omega
/-- papers told, three times -/
theorem law_t3 (n : Nat) {P : List Int} {t : R} {m : Int} {L : List Spot} (hk : Kp P t m L) {p : Spot} (hp : p ∈ L) {sp : Spn} {k : Nat} (g : Good (p.v t) sp k) (hk51 : k ≤ 51) (hn : Nin t L p sp) {row : List (List Int)} {ls : List Lk3} (hp1 : Ppr P 1 1 row ls) (hrow : row.length ≤ 50) (fw1 : ∀ p ∈ row, btl 8900 p ∧ p.length ≤ 100) (fw2 : ∀ l ∈ ls, btl 8900 l.q ∧ l.q.length ≤ 100 ∧ bt 8901 l.f ∧ bt 8900 l.d)
    (a b : Int) (ss : List Int) (hss : ∀ s ∈ (a :: b :: ss), 1 ≤ s ∧ s < 2 ^ 62) (hlen : (a :: b :: ss).length = row.length) (z0 z1 z2 z3 z5 z6 z9 z10 z12 z13 : Option (Bool × D)) :
    ∃ s : Stt, s.ob = [] ∧ evS (tab C87.t.lw (n + 6)) tail3 ⟨[z0, z1, z2, z3, some (false, pl P), z5, z6, some (false, sp.d), some (false, .tup [rw_ row, ls_ ls]), z9, z10, none, z12, z13, some (true, pl (a :: b :: ss)), none, none, none], []⟩ = some (.rt false (.bl true) s) := by
  obtain ⟨B, hB⟩ : ∃ B, decide (a = 1 ∧ b = 1) = B := ⟨_, rfl⟩
  have rl := rem_len2 _ _ hp1.rm
  have hp2 := sc_ppr hp1 (a := a) (b := b) (ss := ss) hlen (fun s hs => by have := hss s hs; omega)
  have e1 := scaled_ok (n + 5) row ls (a :: b :: ss) (fun s hs => by have := hss s hs; exact ⟨by omega, by omega⟩) hlen rl (by omega) (fun p hp => by have := (fw1 p hp).2; omega) (fun l hl => by have := (fw2 l hl).2.1; omega) []
  have sb : ∀ s ∈ (a :: b :: ss), bt 63 s := fun s hs => by
    have := hss s hs
    exact bt_of 63 (by omega) (by omega)
  have g1 := scR_few (a :: b :: ss) row sb fw1
  have g2 := scL_few (a :: b :: ss) ls sb fw2
  have fP : Few 57 P := ⟨hk.b, by have := hk.l2; omega⟩
  have r2 := rem_len2 _ _ hp2.rm
  have lsc := scL_len ls (a :: b :: ss)
  have t1 : ∀ ob, S__law_told (n + 5) [pl P, sp.d, .tup [rw_ (scR (a :: b :: ss) row), ls_ (scL (a :: b :: ss) ls)]] ob = some (.ret false (.bl B) ob) := fun ob => by
    have := told_ok n hp2 hk.two hp hk.r g hk51 hn 57 (by omega) fP (fun p hp => ⟨(g1 p hp).1.mono (by omega), by have := (g1 p hp).2; omega⟩) g2 (by omega) ob
    rw [hB] at this
    exact this
  have t2 : ∀ ob, S__law_told (n + 5) [pl P, sp.d, .tup [rw_ row, ls_ ls]] ob = some (.ret false (.bl true) ob) := fun ob => by
    have := told_ok n hp1 hk.two hp hk.r g hk51 hn 57 (by omega) fP (fun p hp => ⟨(fw1 p hp).1.mono (by omega), by have := (fw1 p hp).2; omega⟩) (fun l hl => ⟨⟨(fw2 l hl).1.mono (by omega), by have := (fw2 l hl).2.1; omega⟩, (fw2 l hl).2.2.1.mono (by omega), (fw2 l hl).2.2.2.mono (by omega)⟩) (by omega) ob
    exact this
  have hdue : ∀ σ : Stt, σ.sl[14]? = some (some (true, pl (a :: b :: ss))) → (ev (tab C87.t.lw (n + 6)) (.and (.cmp .Eq (.idx (.var 14) (.con (.int 0))) (.con (.int 1))) (.cmp .Eq (.idx (.var 14) (.con (.int 1))) (.con (.int 1))))).E σ = some (.ok (false, .bl B) σ) := fun σ hσ => by
    rw [← hB]
    by_cases c1 : a = 1
    · by_cases c2 : b = 1
      · simp [peek, hσ, intl, c1, c2]
      · simp [peek, hσ, intl, c1, c2]
    · simp [peek, hσ, intl, c1]
  have q := eq_due B
  clear hB
  generalize scR (a :: b :: ss) row = row' at *
  generalize scL (a :: b :: ss) ls = ls' at *
  have hc : compR 11 (ev (tab C87.t.lw (n + 6)) (.call 37 (.acons (.var 4) (.acons (.var 7) (.acons (.var 11) (.anil)))))).E none [.tup [rw_ row', ls_ ls'], .tup [rw_ row, ls_ ls], .tup [rw_ row', ls_ ls']] [] ⟨[z0, z1, z2, z3, some (false, pl P), z5, z6, some (false, sp.d), some (false, .tup [rw_ row, ls_ ls]), z9, z10, none, z12, z13, some (false, pl (a :: b :: ss)), some (false, .bl B), some (false, .tup [rw_ row', ls_ ls']), none], []⟩ = some (.ok [.bl B, .bl true, .bl B] ⟨[z0, z1, z2, z3, some (false, pl P), z5, z6, some (false, sp.d), some (false, .tup [rw_ row, ls_ ls]), z9, z10, none, z12, z13, some (false, pl (a :: b :: ss)), some (false, .bl B), some (false, .tup [rw_ row', ls_ ls']), none], []⟩) := by
    have := compR_D (α := D × Bool) (i := 11) (ee := (ev (tab C87.t.lw (n + 6)) (.call 37 (.acons (.var 4) (.acons (.var 7) (.acons (.var 11) (.anil)))))).E) (s := ⟨[z0, z1, z2, z3, some (false, pl P), z5, z6, some (false, sp.d), some (false, .tup [rw_ row, ls_ ls]), z9, z10, none, z12, z13, some (false, pl (a :: b :: ss)), some (false, .bl B), some (false, .tup [rw_ row', ls_ ls']), none], []⟩) (fun x => x.1) (fun x => .bl x.2) rfl (p := [(.tup [rw_ row', ls_ ls'], B), (.tup [rw_ row, ls_ ls], true), (.tup [rw_ row', ls_ ls'], B)]) (acc := []) (fun x hx => ⟨false, by
      simp only [List.mem_cons, List.not_mem_nil, or_false] at hx
      rcases hx with rfl | rfl | rfl
      · simp [t1]
      · simp [t2]
      · simp [t1]⟩) (by simp)
    exact this
  refine ⟨⟨[z0, z1, z2, z3, some (false, pl P), z5, z6, some (false, sp.d), some (false, .tup [rw_ row, ls_ ls]), z9, z10, some (false, .bl B), z12, z13, some (false, pl (a :: b :: ss)), some (false, .bl B), some (false, .tup [rw_ row', ls_ ls']), some (false, .lst [.bl B, .bl true, .bl B])], []⟩, rfl, ?_⟩
  unfold tail3
  refine seq_nx (s1 := ⟨[z0, z1, z2, z3, some (false, pl P), z5, z6, some (false, sp.d), some (false, .tup [rw_ row, ls_ ls]), z9, z10, none, z12, z13, some (true, pl (a :: b :: ss)), some (false, .bl B), none, none], []⟩) (by
    have := hdue ⟨[z0, z1, z2, z3, some (false, pl P), z5, z6, some (false, sp.d), some (false, .tup [rw_ row, ls_ ls]), z9, z10, none, z12, z13, some (true, pl (a :: b :: ss)), none, none, none], []⟩ rfl
    rw [s_asg, this]
    rfl) ?_
  refine seq_nx (s1 := ⟨[z0, z1, z2, z3, some (false, pl P), z5, z6, some (false, sp.d), some (false, .tup [rw_ row, ls_ ls]), z9, z10, none, z12, z13, some (false, pl (a :: b :: ss)), some (false, .bl B), some (false, .tup [rw_ row', ls_ ls']), none], []⟩) (by simp [e1]) ?_
  refine seq_nx (s1 := ⟨[z0, z1, z2, z3, some (false, pl P), z5, z6, some (false, sp.d), some (false, .tup [rw_ row, ls_ ls]), z9, z10, none, z12, z13, some (false, pl (a :: b :: ss)), some (false, .bl B), some (false, .tup [rw_ row', ls_ ls']), some (true, .lst [.bl B, .bl true, .bl B])], []⟩) (by simp [hc]) ?_
  refine seq_nx (s1 := ⟨[z0, z1, z2, z3, some (false, pl P), z5, z6, some (false, sp.d), some (false, .tup [rw_ row, ls_ ls]), z9, z10, some (false, .bl B), z12, z13, some (false, pl (a :: b :: ss)), some (false, .bl B), some (false, .tup [rw_ row', ls_ ls']), some (false, .lst [.bl B, .bl true, .bl B])], []⟩) (by simp) ?_
  exact seq_rt (by simp [q])
/-- the last part: papers told, from the scales on -/
theorem law_tail (n : Nat) (ns : List Int) (cell : Int) (z2 z3 : Option (Bool × D)) {P : List Int} {t : R} {m : Int} {L : List Spot} (hk : Kp P t m L) {p : Spot} (hp : p ∈ L) (w4 w5 : Bool) : ∃ s : Stt, s.ob = [] ∧ evS (tab C87.t.lw (n + 6)) tailS ⟨[some (false, dInts ns), some (false, .int cell), z2, z3, some (w4, pl P), some (w5, .lst (L.map sd)), some (false, sd p), none, none, none, none, none, none, none, none, none, none, none], []⟩ = some (.rt false (.bl true) s) := by
  have d3 : Builtin.divisionGoesByPylong cell 3 = false := divOk (smK 3 (by omega))
  have d27 : Builtin.divisionGoesByPylong cell 27 = false := divOk (smK 27 (by omega))
  have hmore := fmod_rng (cell.fdiv 3) (m := 9) (by omega)
  obtain ⟨sp, k, g, hk51, hn, e1⟩ := span_ok (n + 1) hk.tm hk.t0 hk.ap hp ((cell.fdiv 3).fmod 9) hmore.1 hmore.2 []
  have two := hk.two
  have hl2 := hk.l2
  have e2 := paper_ok (n + 2) P hk.ne two hk.fit hk.b hk.sb (by omega) (by omega) []
  have e3 := lshared_ok (n + 4) (slp P) []
  have l1 : (shr (slp P)).length = P.length - 1 := by rw [shr_len, slp_len]
  have hp1 := pap_ppr two hk.cop (k := P.length - 1) (by omega)
  obtain ⟨fw1, fw2⟩ := pap_few (P.length - 1) P (shr (slp P)) 57 60 two (by rw [l1, show P.length - 1 + 1 = P.length by have := hk.l1; omega]; exact hk.fit) hk.b (shr_bt (slp_nz hk.nz) hk.sne hk.sb) (by omega)
  have hrl := pap_len (P.length - 1) P (shr (slp P))
  generalize (pap (P.length - 1) P (shr (slp P))).1 = row at *
  generalize (pap (P.length - 1) P (shr (slp P))).2 = ls at *
  have rl := rem_len2 _ _ hp1.rm
  have hrow : row.length ≤ 50 := by omega
  have hen : enumD (intl P) = enF 0 P := enum_enF P
  have hd : Ev.cut (intl (slF 0 P)) (some 1) none = intl (slp P) := by rw [cut_1, intl_drop, slp_slF P hk.ne]
  have gb : bt 60 (gc (slp P) : Int) := gc_bt (slp_nz hk.nz) hk.sne hk.sb
  have g0 := gc_pos (slp_nz hk.nz) hk.sne
  have gr := bt_le gb
  obtain ⟨st, hst⟩ : ∃ st : Int, ((gc (slp P) : Nat) : Int) = st := ⟨_, rfl⟩
  rw [hst] at e3 gr
  have st1 : 1 ≤ st := by omega
  have hc : compRT [10, 11] (ev (tab C87.t.lw (n + 6)) (.bin .Mult (.var 10) (.var 11))).E none (enF 0 P) [] ⟨[some (false, dInts ns), some (false, .int cell), z2, z3, some (false, pl P), some (false, .lst (L.map sd)), some (false, sd p), some (false, sp.d), some (false, .tup [rw_ row, ls_ ls]), none, none, none, none, none, none, none, none, none], []⟩ = some (.ok (intl (slF 0 P)) ⟨[some (false, dInts ns), some (false, .int cell), z2, z3, some (false, pl P), some (false, .lst (L.map sd)), some (false, sd p), some (false, sp.d), some (false, .tup [rw_ row, ls_ ls]), none, none, none, none, none, none, none, none, none], []⟩) := by
    have := compRT_k (is := [10, 11]) (ee := (ev (tab C87.t.lw (n + 6)) (.bin .Mult (.var 10) (.var 11))).E) (s := ⟨[some (false, dInts ns), some (false, .int cell), z2, z3, some (false, pl P), some (false, .lst (L.map sd)), some (false, sd p), some (false, sp.d), some (false, .tup [rw_ row, ls_ ls]), none, none, none, none, none, none, none, none, none], []⟩) 1000 (by omega) P 0 [] (fun j c hj => ⟨⟨[some (false, dInts ns), some (false, .int cell), z2, z3, some (false, pl P), some (false, .lst (L.map sd)), some (false, sd p), some (false, sp.d), some (false, .tup [rw_ row, ls_ ls]), none, some (false, .int j), some (false, .int c), none, none, none, none, none, none], []⟩, false, rfl, by simp [show IntMulOk (j : Int) c from mulL ⟨by omega, by omega⟩], rfl⟩) (by omega) (by simp; omega)
    exact this
  obtain ⟨kd, hkd⟩ : ∃ kd, (cell.fdiv 27).fmod 4 = kd := ⟨_, rfl⟩
  obtain ⟨acc, left, o10, hS, e4⟩ := scales_for (n + 6) [] (some (false, dInts ns)) (some (false, .int cell)) z2 z3 (some (false, pl P)) (some (false, .lst (L.map sd))) (some (false, sd p)) (some (false, sp.d)) (some (false, .tup [rw_ row, ls_ ls])) (some (false, .int st)) none (some (false, .int kd)) none none none row.length 0 [] (ns[4]?.getD 0) none ⟨rfl, fun s hs => by simp at hs, fun i _ h => by omega⟩ (by omega)
  rw [Nat.zero_add] at hS
  obtain ⟨r, rfl, hr⟩ := sca_two hS (by omega)
  have hok : rng1D (.int (row.length : Int)) = some ((List.range' 0 row.length).map fun j : Nat => D.int (j : Int)) := by
    rw [rng1_nat (by omega)]
    unfold intl
    rw [rng_map, List.range_eq_range']
  have hI : (ev (tab C87.t.lw (n + 6)) (.rng1 (.b1 .len (.idx (.var 8) (.con (.int 0)))))).I ⟨[some (false, dInts ns), some (false, .int cell), z2, z3, some (false, pl P), some (false, .lst (L.map sd)), some (false, sd p), some (false, sp.d), some (false, .tup [rw_ row, ls_ ls]), some (false, .int st), none, none, some (false, .int kd), some (false, .int (ns[4]?.getD 0)), some (true, .lst []), none, none, none], []⟩ = some (.ok ((List.range' 0 row.length).map fun j : Nat => D.int (j : Int)) ⟨[some (false, dInts ns), some (false, .int cell), z2, z3, some (false, pl P), some (false, .lst (L.map sd)), some (false, sd p), some (false, sp.d), some (false, .tup [rw_ row, ls_ ls]), some (false, .int st), none, none, some (false, .int kd), some (false, .int (ns[4]?.getD 0)), some (true, .lst []), none, none, none], []⟩) := by
    simp [hok]
  have hx4 := fmod_rng (ns[5]?.getD 0) (m := 4) (by omega)
  obtain ⟨x, hx⟩ : ∃ x : Int, 2 + (ns[5]?.getD 0).fmod 4 = x := ⟨_, rfl⟩
  have i0 : ixN (r.length + 2) 0 = some 0 := ixN_nat (k := 0) (by omega)
  have i1 : ixN (r.length + 2) 1 = some 1 := ixN_nat (k := 1) (by omega)
  have i0' : ixN (r.length + 1 + 1) 0 = some 0 := i0
  have i1' : ixN (r.length + 1 + 1) 1 = some 1 := i1
  have ca4 : ∀ ob, S__law_cell_at (n + 5) [dInts ns, .int 4] ob = some (.ret false (.int (ns[4]?.getD 0)) ob) := fun ob => cell_at_ok (n + 5) ns 4 ob
  have ca5 : ∀ ob, S__law_cell_at (n + 5) [dInts ns, .int 5] ob = some (.ret false (.int (ns[5]?.getD 0)) ob) := fun ob => cell_at_ok (n + 5) ns 5 ob
  -- up to the scales
  have pre : ∀ (a b : Int) (res : Out), (1 ≤ a ∧ a < 2 ^ 62) → (1 ≤ b ∧ b < 2 ^ 62) → (kd = 1 → a = x) → (kd ≠ 1 → a = 1) → (kd = 2 → b = x) → (kd = 3 → b = st) → (kd ≠ 2 → kd ≠ 3 → b = 1) →
      evS (tab C87.t.lw (n + 6)) tail3 ⟨[some (false, dInts ns), some (false, .int cell), z2, z3, some (false, pl P), some (false, .lst (L.map sd)), some (false, sd p), some (false, sp.d), some (false, .tup [rw_ row, ls_ ls]), some (false, .int st), o10, none, some (false, .int kd), some (false, .int left), some (true, pl (a :: b :: r)), none, none, none], []⟩ = some res →
      evS (tab C87.t.lw (n + 6)) tailS ⟨[some (false, dInts ns), some (false, .int cell), z2, z3, some (w4, pl P), some (w5, .lst (L.map sd)), some (false, sd p), none, none, none, none, none, none, none, none, none, none, none], []⟩ = some res := fun a b res ha hb a1 a2 b1 b2 b3 hres => by
    unfold tailS
    refine seq_nx (s1 := ⟨[some (false, dInts ns), some (false, .int cell), z2, z3, some (w4, pl P), some (false, .lst (L.map sd)), some (false, sd p), some (false, sp.d), none, none, none, none, none, none, none, none, none, none], []⟩) (by cases w5 <;> simp [e1, d3]) ?_
    refine seq_nx (s1 := ⟨[some (false, dInts ns), some (false, .int cell), z2, z3, some (false, pl P), some (false, .lst (L.map sd)), some (false, sd p), some (false, sp.d), some (false, .tup [rw_ row, ls_ ls]), none, none, none, none, none, none, none, none, none], []⟩) (by cases w4 <;> simp [e2]) ?_
    refine seq_nx (s1 := ⟨[some (false, dInts ns), some (false, .int cell), z2, z3, some (false, pl P), some (false, .lst (L.map sd)), some (false, sd p), some (false, sp.d), some (false, .tup [rw_ row, ls_ ls]), some (false, .int st), none, none, none, none, none, none, none, none], []⟩) (by simp [hen, hc, wipeS, hd, e3]) ?_
    refine seq_nx (s1 := ⟨[some (false, dInts ns), some (false, .int cell), z2, z3, some (false, pl P), some (false, .lst (L.map sd)), some (false, sd p), some (false, sp.d), some (false, .tup [rw_ row, ls_ ls]), some (false, .int st), none, none, some (false, .int kd), none, none, none, none, none], []⟩) (by simp [d27, hkd]) ?_
    refine seq_nx (s1 := ⟨[some (false, dInts ns), some (false, .int cell), z2, z3, some (false, pl P), some (false, .lst (L.map sd)), some (false, sd p), some (false, sp.d), some (false, .tup [rw_ row, ls_ ls]), some (false, .int st), none, none, some (false, .int kd), some (false, .int (ns[4]?.getD 0)), none, none, none, none], []⟩) (by simp [ca4]) ?_
    refine seq_nx (s1 := ⟨[some (false, dInts ns), some (false, .int cell), z2, z3, some (false, pl P), some (false, .lst (L.map sd)), some (false, sd p), some (false, sp.d), some (false, .tup [rw_ row, ls_ ls]), some (false, .int st), none, none, some (false, .int kd), some (false, .int (ns[4]?.getD 0)), some (true, .lst []), none, none, none], []⟩) (by simp) ?_
    refine seq_nx (s1 := ⟨[some (false, dInts ns), some (false, .int cell), z2, z3, some (false, pl P), some (false, .lst (L.map sd)), some (false, sd p), some (false, sp.d), some (false, .tup [rw_ row, ls_ ls]), some (false, .int st), o10, none, some (false, .int kd), some (false, .int left), some (true, pl (1 :: 1 :: r)), none, none, none], []⟩) (by
      rw [s_forn, hI, obnd_ok]
      exact e4) ?_
    refine seq_nx (s1 := ⟨[some (false, dInts ns), some (false, .int cell), z2, z3, some (false, pl P), some (false, .lst (L.map sd)), some (false, sd p), some (false, sp.d), some (false, .tup [rw_ row, ls_ ls]), some (false, .int st), o10, none, some (false, .int kd), some (false, .int left), some (true, pl (a :: 1 :: r)), none, none, none], []⟩) (by
      by_cases c : kd = 1
      · rw [a1 c, ← hx]
        simp [c, ca5, intl, i0, i0']
      · rw [a2 c]
        simp [c]) ?_
    refine seq_nx (s1 := ⟨[some (false, dInts ns), some (false, .int cell), z2, z3, some (false, pl P), some (false, .lst (L.map sd)), some (false, sd p), some (false, sp.d), some (false, .tup [rw_ row, ls_ ls]), some (false, .int st), o10, none, some (false, .int kd), some (false, .int left), some (true, pl (a :: (if kd = 2 then x else 1) :: r)), none, none, none], []⟩) (by
      by_cases c : kd = 2
      · rw [if_pos c, ← hx]
        simp [c, ca5, intl, i1, i1']
      · rw [if_neg c]
        simp [c]) ?_
    refine seq_nx (s1 := ⟨[some (false, dInts ns), some (false, .int cell), z2, z3, some (false, pl P), some (false, .lst (L.map sd)), some (false, sd p), some (false, sp.d), some (false, .tup [rw_ row, ls_ ls]), some (false, .int st), o10, none, some (false, .int kd), some (false, .int left), some (true, pl (a :: b :: r)), none, none, none], []⟩) (by
      by_cases c : kd = 3
      · rw [b2 c]
        simp [c, intl, i1, i1']
      · by_cases c2 : kd = 2
        · rw [if_pos c2, b1 c2]
          simp [c]
        · rw [if_neg c2, b3 c2 c]
          simp [c]) ?_
    exact hres
  obtain ⟨a, b, ha, hb, a1, a2, b1, b2, b3⟩ : ∃ a b : Int, (1 ≤ a ∧ a < 2 ^ 62) ∧ (1 ≤ b ∧ b < 2 ^ 62) ∧ (kd = 1 → a = x) ∧ (kd ≠ 1 → a = 1) ∧ (kd = 2 → b = x) ∧ (kd = 3 → b = st) ∧ (kd ≠ 2 → kd ≠ 3 → b = 1) := by
    by_cases c1 : kd = 1
    · exact ⟨x, 1, by omega, by omega, fun _ => rfl, by omega, by omega, by omega, fun _ _ => rfl⟩
    · by_cases c2 : kd = 2
      · exact ⟨1, x, by omega, by omega, by omega, fun _ => rfl, fun _ => rfl, by omega, by omega⟩
      · by_cases c3 : kd = 3
        · exact ⟨1, st, by omega, by omega, by omega, fun _ => rfl, by omega, fun _ => rfl, by omega⟩
        · exact ⟨1, 1, by omega, by omega, by omega, fun _ => rfl, by omega, by omega, fun _ _ => rfl⟩
  obtain ⟨s, s1, s2⟩ := law_t3 n hk hp g hk51 hn hp1 hrow fw1 fw2 a b r (fun s hs => by
    rcases List.mem_cons.mp hs with rfl | hs
    · exact ha
    · rcases List.mem_cons.mp hs with rfl | hs
      · exact hb
      · have := hr s hs
        omega) (by have := hS.l; simp at this ⊢; exact this) (some (false, dInts ns)) (some (false, .int cell)) z2 z3 (some (false, .lst (L.map sd))) (some (false, sd p)) (some (false, .int st)) o10 (some (false, .int kd)) (some (false, .int left))
  exact ⟨s, s1, pre a b _ ha hb a1 a2 b1 b2 b3 s2⟩
end P87
set_option Elab.async false
set_option linter.all false
set_option maxRecDepth 100000
set_option maxHeartbeats 4000000
/-! the law holds -/
namespace P87
open PySem L2 Ev C87 Pd Rl Qd
theorem cut_k (l : List D) (k : Nat) : Ev.cut l (some (k : Int)) none = l.drop k := by
  unfold Ev.cut
  rw [HT.sIx_nat, HT.sIx_none]
  by_cases h : k ≤ l.length
  · rw [Nat.min_eq_left h]
    exact List.take_of_length_le (by simp)
  · rw [Nat.min_eq_right (by omega), List.drop_eq_nil_of_le (Nat.le_refl _), List.drop_eq_nil_of_le (by omega)]
    simp
/-! ### rows of spots, compared -/
def spP (s : Spot) : PyData := .tuple ((Spot.l s).map .int)
theorem toPyL_sp : ∀ L : List Spot, toPyL (L.map sd) = some (L.map spP)
  | [] => rfl
  | s :: L => by
    show (toPy (sd s)).bind (fun x => (toPyL (L.map sd)).map (x :: ·)) = _
    rw [toPyL_sp L]
    show ((toPyL (intl (Spot.l s))).map PyData.tuple).bind _ = _
    rw [toPy_ints]
    rfl
theorem lay_sp : ∀ L : List Spot, PyData.canLayAll0 (L.map spP) = true
  | [] => rfl
  | s :: L => by
    show (PyData.canLayAll0 ((Spot.l s).map .int) && PyData.canLayAll0 (L.map spP)) = true
    rw [lay_sp L, lay_ints]
    rfl
theorem depth_sp : ∀ L : List Spot, PyData.depthAll (L.map spP) ≤ 1
  | [] => Nat.zero_le _
  | s :: L => by
    show max (PyData.depthAll ((Spot.l s).map .int) + 1) (PyData.depthAll (L.map spP)) ≤ 1
    have := depth_sp L
    rw [depth_ints]
    omega
theorem eq_sp0 (L : List Spot) : eqD (.lst (L.map sd)) (.lst []) = some (decide (L = [])) := by
  show ((toPyL (L.map sd)).map PyData.list).bind (fun a => ((toPyL []).map PyData.list).bind fun b => if SeqAt.shaped a = true ∧ SeqAt.shaped b = true then some (PyData.eqv a b) else none) = _
  rw [toPyL_sp]
  have hs : SeqAt.shaped (.list (L.map spP)) = true := by
    show (PyData.canLayAll0 (L.map spP) && decide (PyData.depthAll (L.map spP) + 1 ≤ 64)) = true
    have := depth_sp L
    rw [lay_sp, decide_eq_true (by omega)]
    rfl
  show (if SeqAt.shaped (.list (L.map spP)) = true ∧ SeqAt.shaped (.list []) = true then some (PyData.eqvAll (L.map spP) []) else none) = _
  rw [if_pos ⟨hs, rfl⟩]
  cases L with
  | nil => rfl
  | cons s r => rfl
theorem law_ok (n : Nat) (ns : List Int) : defSem (tab C87.t.lw (n + 6)) 18 b_law [dInts ns] [] = some (.ret false (.bl true) []) := by
  have ca : ∀ (k : Nat) ob, S__law_cell_at (n + 5) [dInts ns, .int (k : Int)] ob = some (.ret false (.int (ns[k]?.getD 0)) ob) := fun k ob => cell_at_ok (n + 5) ns k ob
  have ca0 : ∀ ob, S__law_cell_at (n + 5) [dInts ns, .int 0] ob = some (.ret false (.int (ns[0]?.getD 0)) ob) := ca 0
  have ca1 : ∀ ob, S__law_cell_at (n + 5) [dInts ns, .int 1] ob = some (.ret false (.int (ns[1]?.getD 0)) ob) := ca 1
  have ca2 : ∀ ob, S__law_cell_at (n + 5) [dInts ns, .int 2] ob = some (.ret false (.int (ns[2]?.getD 0)) ob) := ca 2
  have ca3 : ∀ ob, S__law_cell_at (n + 5) [dInts ns, .int 3] ob = some (.ret false (.int (ns[3]?.getD 0)) ob) := ca 3
  clear ca
  obtain ⟨u, hu, q1⟩ := cube_by_ok (n + 4) (ns[0]?.getD 0) (ns[1]?.getD 0) (ns[2]?.getD 0) []
  obtain ⟨fs, room, hF, q2⟩ := factors_by_ok (n + 1) (ns.drop 6) []
  have hd := dsum_ge fs
  have hs := hF.sum
  have hn := hF.nn
  have fl : fs.length ≤ 2 := by omega
  have q3 := product_ok (n + 1) fs [] hF.ok fl
  have q4 := roots_ok (n + 5) fs [] fl
  have q5 := cube_shape_ok (n + 4) u hu []
  obtain ⟨i1, i2, i3, i4⟩ := prodL_spec fs [1] 1 hF.ok (nz_of_last (l := 1) rfl (by omega)) (by simp) (btl_of 1 (by simp)) (by omega) (by simp; omega)
  have i3' : ((prodL [1] fs).length : Int) = 1 + dsum fs := i3
  have q6 := mul_ok (n + 5) (prodL [1] fs) u.p [] (btl_sml i4 (by omega)) (by omega) (by simp [Cb.p])
  have hcut : Ev.cut (ns.map D.int) (some 6) none = intl (ns.drop 6) := by
    have := cut_k (ns.map D.int) 6
    rw [← List.map_drop] at this
    exact this
  obtain ⟨t, t0, tm⟩ := Mt86.root3 u.m (by have := hu.m1; omega)
  obtain ⟨cell, hc⟩ : ∃ cell, ns[3]?.getD 0 = cell := ⟨_, rfl⟩
  have e0 := eq_sp0 (rts fs)
  have kA := kpA hF tm t0 hu
  generalize hPA : mulP (prodL [1] fs) u.p = PA at *
  have rl : (rts fs).length + 1 ≤ 16777216 := by
    have h1 : ∀ fs : List Fac, (rts fs).length ≤ 2 * fs.length := fun fs => by
      induction fs with
      | nil => simp [rts]
      | cons f r ih =>
        have := rt1_len f
        simp [rts]
        omega
    have := h1 fs
    omega
  have rl2 : (rts fs).length < 16777216 := by omega
  have key : ∀ (s : Stt), s.ob = [] → evS (tab C87.t.lw (n + 6)) b_law ⟨[dInts ns].map (fun d => some (false, d)) ++ List.replicate (18 - 1) none, []⟩ = some (.rt false (.bl true) s) → defSem (tab C87.t.lw (n + 6)) 18 b_law [dInts ns] [] = some (.ret false (.bl true) []) := fun s h1 h2 => def_rt h2 h1
  have pre : ∀ res : Out, evS (tab C87.t.lw (n + 6)) (.seq (.ite (.and (.cmp .Eq (.bin .Mod (.var 1) (.con (.int 3))) (.con (.int 1))) (.cmp .NotEq (.call 42 (.acons (.var 3) (.anil))) (.lst (.anil)))) (.seq (.asg 4 (.call 43 (.acons (.var 3) (.anil))))
    (.seq (.asg 5 (.call 42 (.acons (.var 3) (.anil))))
    (.seq (.asg 6 (.idx (.var 5) (.con (.int 0))))
    (.nil)))) (.nil)) tailS) ⟨[some (false, dInts ns), some (false, .int cell), some (false, sd (Spot.cub u)), some (false, .lst (fs.map fd)), some (true, pl PA), some (true, .lst ((rts fs ++ [Spot.cub u]).map sd)), some (false, sd (Spot.cub u)), none, none, none, none, none, none, none, none, none, none, none], []⟩ = some res →
      evS (tab C87.t.lw (n + 6)) b_law ⟨[dInts ns].map (fun d => some (false, d)) ++ List.replicate (18 - 1) none, []⟩ = some res := fun res hres => by
    unfold b_law
    refine seq_nx (s1 := ⟨[some (false, dInts ns), some (false, .int cell), none, none, none, none, none, none, none, none, none, none, none, none, none, none, none, none], []⟩) (by simp [ca3, hc]) ?_
    refine seq_nx (s1 := ⟨[some (false, dInts ns), some (false, .int cell), some (false, sd (Spot.cub u)), none, none, none, none, none, none, none, none, none, none, none, none, none, none, none], []⟩) (by simp [ca0, ca1, ca2, q1]) ?_
    refine seq_nx (s1 := ⟨[some (false, dInts ns), some (false, .int cell), some (false, sd (Spot.cub u)), some (true, .lst (fs.map fd)), none, none, none, none, none, none, none, none, none, none, none, none, none, none], []⟩) (by simp [dInts, hcut, q2]) ?_
    refine seq_nx (s1 := ⟨[some (false, dInts ns), some (false, .int cell), some (false, sd (Spot.cub u)), some (false, .lst (fs.map fd)), some (true, pl PA), none, none, none, none, none, none, none, none, none, none, none, none, none], []⟩) (by simp [q3, q5, q6]) ?_
    refine seq_nx (s1 := ⟨[some (false, dInts ns), some (false, .int cell), some (false, sd (Spot.cub u)), some (false, .lst (fs.map fd)), some (true, pl PA), some (true, .lst ((rts fs ++ [Spot.cub u]).map sd)), none, none, none, none, none, none, none, none, none, none, none, none], []⟩) (by simp [q4, rl, rl2]) ?_
    refine seq_nx (s1 := ⟨[some (false, dInts ns), some (false, .int cell), some (false, sd (Spot.cub u)), some (false, .lst (fs.map fd)), some (true, pl PA), some (true, .lst ((rts fs ++ [Spot.cub u]).map sd)), some (false, sd (Spot.cub u)), none, none, none, none, none, none, none, none, none, none, none], []⟩) (by simp) ?_
    exact hres
  by_cases c : cell.fmod 3 = 1 ∧ rts fs ≠ []
  · obtain ⟨c1, c2⟩ := c
    have kB := kpB hF c2 tm t0 (m := u.m)
    match hr : rts fs, c2 with
    | p :: L, _ =>
      rw [hr] at kB q4 e0
      obtain ⟨s, s1, s2⟩ := law_tail n ns cell (some (false, sd (Spot.cub u))) (some (false, .lst (fs.map fd))) kB (p := p) (by simp) true true
      refine key s s1 (pre _ ?_)
      refine seq_nx (s1 := ⟨[some (false, dInts ns), some (false, .int cell), some (false, sd (Spot.cub u)), some (false, .lst (fs.map fd)), some (true, pl (prodL [1] fs)), some (true, .lst ((p :: L).map sd)), some (false, sd p), none, none, none, none, none, none, none, none, none, none, none], []⟩) ?_ s2
      have e0' : eqD (.lst (sd p :: L.map sd)) (.lst []) = some false := e0
      rw [hr]
      simp [c1, q4, q3, e0']
  · obtain ⟨s, s1, s2⟩ := law_tail n ns cell (some (false, sd (Spot.cub u))) (some (false, .lst (fs.map fd))) kA (p := Spot.cub u) (by simp) true true
    refine key s s1 (pre _ ?_)
    refine seq_nx (s1 := ⟨[some (false, dInts ns), some (false, .int cell), some (false, sd (Spot.cub u)), some (false, .lst (fs.map fd)), some (true, pl PA), some (true, .lst ((rts fs ++ [Spot.cub u]).map sd)), some (false, sd (Spot.cub u)), none, none, none, none, none, none, none, none, none, none, none], []⟩) ?_ s2
    by_cases c1 : cell.fmod 3 = 1
    · have c2 : rts fs = [] := by
        by_cases z : rts fs = []
        · exact z
        · exact absurd ⟨c1, z⟩ c
      rw [c2] at q4 e0
      have e0' : eqD (.lst []) (.lst []) = some true := e0
      simp [c1, q4, e0', c2]
    · simp [c1]
end P87
set_option Elab.async false
set_option linter.all false
set_option maxRecDepth 100000
set_option maxHeartbeats 4000000
theorem P87.law (ns : List Int) (hl : ns.length ≤ 63) : Ev.defSem (Ev.tab C87.t.lw 20) C87.c_law.N.length C87.c_law.b [Ev.dInts ns] [] = some (.ret false (.bl true) []) := P87.law_ok 14 ns
set_option Elab.async false
set_option linter.all false
set_option maxRecDepth 100000
set_option maxHeartbeats 0
namespace H87
open PySem PySem.Spec PyProof.Rows L2 Ev C87
abbrev R : PySem.W.OpenRow := PySem.W.OpenLaw.row PySem.Challenge.rw_rootspan_k87_papers_scaled
abbrev hk : PySem.W.Hook := He.hookD 4 t.fa t.fn
def ob (s : PySem.W.SharedT) : He.AlD := He.obsDG 4 t.fa t.fn (HandSHeadRun.getT s)
theorem ob_eq (s : PySem.W.SharedT) : ob s = hk.obs s.abs := He.obsDG_eq (HandSHeadRun.getT_eq s)
def loose : List Str := (["_wall", "__name__", "RootError", "NoRatio", "ByNought", "shared", "told_order", "Ratio", "poly", "degree", "coefficient_at", "taken", "multiplied", "slope", "shrunk", "top_at", "sign_at", "changes", "count", "link_holds", "just_one", "_law_cell_at", "_law_within", "_law_trim", "_law_mul", "_law_gcd", "_law_shared", "_law_shrunk", "_law_plain", "_law_factor_by", "_law_shape", "_law_factors_by", "_law_product", "_law_sure", "_law_side", "_law_roots_of", "_law_norm", "_law_cube_shape", "_law_cube_by", "_law_way", "_law_divided", "_law_paper_from", "_law_paper", "_law_alone", "_law_half", "_law_span", "_law_scaled", "_law_told"] : List String).map Str.ofString
theorem run (w : World) : HandSHeadRun.RunEq R (PySem.W.view R.prog [53]) hk ob 3000 loose w := by
  intro os
  kernel_rfl
end H87
set_option Elab.async false
set_option linter.all false
set_option maxRecDepth 100000
set_option maxHeartbeats 0
namespace H87
open PySem PySem.Spec PyProof.Rows L2 Ev C87
theorem mem_fnL : (PySem.Challenge.rw_rootspan_k87_papers_scaled.prog).main.body.length = (PySem.Challenge.rw_rootspan_k87_papers_scaled.prog).main.body.length := rfl
theorem hook {w : World} {h : Heap} {mg : Str → Option Value} {fa : Addr} (X : ∃ K : PySem.W.Frag, K.In h ∧ He.SaysD t.fa t.fn K) (G : h.Ns mainGlobals mg) (hf : mg ("law" : Str) = some (.ref fa)) :
    ∃ (K : PySem.W.Frag) (fd : FuncData) (sp : Sp), K.In h ∧ (∀ (s : Shared) (u : Value), BindsTo s fd ⟨[u], []⟩ [("_law_script", u)]) ∧
        (∀ (H : Hp) (a : Addr) (ns : List Int), ns.length ≤ 63 → Only H → SqL K H a (ns.map V.int) → sp [.ref a] H (fun v _ => v = .bl true) fun _ _ _ => False) ∧
        ∀ base : Heap, K.In base → base.Ns mainGlobals mg → FnOk (PySem.Challenge.rw_rootspan_k87_papers_scaled).prog w K mg base CX0 (2 * 20 + 2) fa fd ["_law_script"] sp := by
  obtain ⟨K, KX, c⟩ := X
  have hlk := lk_of chk1 chk (binds K) KX G c
  have hg : mg ("law" : Str) = some (.ref (He.ga K ("law" : Str))) := (hlk.fn 55 52 (by decide +kernel) c_law (by rfl)).1
  exact law_end (j := 52) (c := c_law) (x' := "law") chk1 chk (binds K) rfl rfl rfl rfl KX G c hf hg (fun _ _ _ _ _ _ us hl => match us, hl with | [_], _ => rfl) fun ns hl => P87.law ns hl
end H87
open PySem PySem.W PySem.Calls PyProof.Rows
theorem PySem.Challenge.cw_rootspan_k87_papers_scaled_holds : PySem.Challenge.rw_rootspan_k87_papers_scaled.Holds := by
  w_on; o_law
  refine HandSHeadRun.head_any (r := OpenLaw.row PySem.Challenge.rw_rootspan_k87_papers_scaled) (q := view (OpenLaw.row PySem.Challenge.rw_rootspan_k87_papers_scaled).prog [53]) (H := H87.hk) (ob := H87.ob) (M := 3000) (loose := H87.loose) (d := HandSHeadRun.topDef (OpenLaw.row PySem.Challenge.rw_rootspan_k87_papers_scaled).prog 53) (kwd := []) H87.ob_eq
    (by kernel_rfl) (fun s => by kernel_rfl) H87.run (by kernel_rfl) (by kernel_rfl) (by kernel_rfl) (by rfl) (by first | assumption | decide +kernel) (by decide +kernel) ⟨rfl, rfl, rfl, rfl, rfl, by decide +kernel⟩ ?hw ?hc
  case hw => w_witness2
  case hc =>
    refine L2.walk_ofE (l := PySem.Challenge.rw_rootspan_k87_papers_scaled) (n := 63) (k := 2 * 20 + 2) (x := "_law_script") (CX := L2.CX0) rfl (by decide) (by kernel_rfl) ⟨rfl, by decide, by decide⟩ ?F (fun _ _ _ _ z => z)
    intro w mg fa h Y G hmg0
    have hmg : mg ("law" : PySem.Str) = some (.ref fa) := by
      have e : (HandSHeadRun.topDef (OpenLaw.row PySem.Challenge.rw_rootspan_k87_papers_scaled).prog 53).name = ("law" : PySem.Str) := by kernel_rfl
      rw [← e]
      exact hmg0
    exact H87.hook (w := w) Y G hmg

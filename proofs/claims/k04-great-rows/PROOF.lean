import PyProof.Rows.All
import Wide.All
import OpenK.AllK
import Wide.FinOn
import HandS.ForMost
import HandS.ForExc
import HandS.Walk
import HandS.IsInst
import HandS.Wide
import HandS.Star
import HandS.ClsMeth
import HandS.Property
import HandS.SlotsOwn
import HandS.SortInts
import HandS.TupAny
import HandS.Style
import HandS.Zip
import HandS.Conv
import HandS.Lambda
import HandS.RaiseMore
import HandS.TryOnly
import HandS.FStr
import HandS.Strs
import HandS.SetFor
import HandS.Deep
import HandS.ExcInit
import HandS.ExcField
import HandS.ExcIs
import HandS.TryMany
import KE.KExcInit
import KE.KCallOwn
import PyProof.ExcBaseAll.IndexError
import PyProof.ExcBaseAll.LookupError
import PyProof.ExcBaseAll.OverflowError
import PyProof.ExcBaseAll.ArithmeticError
import PyProof.EqKinds
import PyProof.NeKinds
import PyProof.FactsAll.dict_1
import PyProof.FactsAll.dict_2
import HandS.Exc
import PyProof.Rows.MatchSeqLen
import HandS.Text
import PySem.Challenge.RW_suredegrees_k04_great_rows
set_option Elab.async false
set_option linter.all false
set_option maxRecDepth 100000
set_option maxHeartbeats 4000000
/-! Sg1: data, the store, the small language, its evaluator. Plain Lean, no machine. -/
namespace Sg
open PySem L2

/-- data: what a value is worth; .ref k: the k-th cell of the store -/
inductive D where
  | non | bl (b : Bool) | int (i : Int) | str (x : Str)
  | tup (xs : List D) | lst (xs : List D) | dic (ks : List Key) (vs : List D)
  | ins (c : Nat) (fs : List D) | cls (c : Nat) | ref (k : Nat)
  /-- a list that is only read (the script) -/
  | rol (xs : List D)
  deriving Inhabited

structure Exc where
  c : Nat
  ds : List D

inductive Cell where
  /-- a list that its def may still change -/
  | own (xs : List D)
  /-- a list that is handed around and changed by many -/
  | shr (xs : List D)
  /-- data by now -/
  | frz (d : D)
  /-- a dict that its def may still change -/
  | dct (ks : List Key) (xs : List D)
  /-- an object in the making: its class, the attributes that it has by now -/
  | obj (c : Nat) (fs : List D)

abbrev Store := List Cell
abbrev Rho := List (Option D)
abbrev M (α : Type) := Store → Option (Except Exc α × Store)

def rt {α : Type} (a : α) : M α := fun μ => some (.ok a, μ)
def bd {α β : Type} (x : M α) (f : α → M β) : M β := fun μ => match x μ with
  | none => none
  | some (.error e, μ') => some (.error e, μ')
  | some (.ok a, μ') => f a μ'
def up {α : Type} (o : Option α) : M α := fun μ => match o with
  | some a => some (.ok a, μ)
  | none => none
/-- no exception may come out -/
def sure {α : Type} (x : M α) : M α := fun μ => match x μ with
  | some (.ok a, μ') => some (.ok a, μ')
  | _ => none

mutual
/-- names no cell -/
def D.nr : D → Bool
  | .tup xs => D.nrL xs
  | .lst xs => D.nrL xs
  | .rol xs => D.nrL xs
  | .dic _ xs => D.nrL xs
  | .ins _ xs => D.nrL xs
  | .ref _ => false
  | _ => true
def D.nrL : List D → Bool
  | [] => true
  | d :: r => D.nr d && D.nrL r
end

def frzD : D → M D
  | .ref k, μ => match μ[k]? with
    | some (.own xs) => some (.ok (.lst xs), μ.set k (.frz (.lst xs)))
    | some (.frz d) => some (.ok d, μ)
    | some (.shr _) => some (.ok (.ref k), μ)
    | some (.obj _ _) => some (.ok (.ref k), μ)
    | some (.dct ks xs) => some (.ok (.dic ks xs), μ.set k (.frz (.dic ks xs)))
    | none => none
  | d, μ => some (.ok d, μ)

/-- what stands behind a reference just now -/
def look (μ : Store) : D → D
  | .ref k => match μ[k]? with
    | some (.own xs) => .lst xs
    | some (.shr xs) => .lst xs
    | some (.frz d) => d
    | some (.dct ks xs) => .dic ks xs
    | _ => .ref k
  | d => d
/-- an object's class and attributes -/
def objOf (μ : Store) : D → Option (Nat × List D)
  | .ins c fs => some (c, fs)
  | .ref k => match μ[k]? with
    | some (.obj c fs) => some (c, fs)
    | _ => none
  | _ => none
def keyD : D → Option Key
  | .int i => some (.inl i)
  | .str x => some (.inr x)
  | _ => none
def kD : Key → D
  | .inl i => .int i
  | .inr x => .str x
def dAt (ks : List Key) (xs : List D) (k : Key) : Option D := ((ks.zip xs).find? fun p => decide (p.1 = k)).map (·.2)
def dPutX (ks : List Key) (xs : List D) (k : Key) (d : D) : List D := (ks.zip xs).map fun p => if p.1 = k then d else p.2

/-! ### operations upon data -/
def mulOk (i j : Int) : Bool := decide ((-(2 ^ 64) < i ∧ i < 2 ^ 64) ∨ (-(2 ^ 64) < j ∧ j < 2 ^ 64) ∨ i.natAbs.log2 + j.natAbs.log2 < 1000000)
def divOk (j : Int) : Bool := decide (0 < j ∧ j.natAbs.log2 < 9000)
def powOk (i j : Int) : Bool := decide (0 ≤ j ∧ (Builtin.Int.intBits i : Int) * j ≤ 2 ^ 27)

/-- two values (what stands behind references is looked at) -/
def binD : Operator → D → D → Option D
  | .Add, .int i, .int j => some (.int (i + j))
  | .Add, .str a, .str b => if a.length + b.length ≤ sizeLine then some (.str (a ++ b)) else none
  | .Add, .lst a, .lst b => if a.length + b.length ≤ sizeLine then some (.lst (a ++ b)) else none
  | .Add, .tup a, .tup b => if a.length + b.length ≤ sizeLine then some (.tup (a ++ b)) else none
  | .Sub, .int i, .int j => some (.int (i - j))
  | .Mult, .int i, .int j => if mulOk i j then some (.int (i * j)) else none
  | .Mult, .lst a, .int k => if -(2 ^ 63) ≤ k ∧ k < 2 ^ 63 ∧ a.length * k.toNat ≤ sizeLine then some (.lst (List.replicate k.toNat a).flatten) else none
  | .FloorDiv, .int i, .int j => if divOk j then some (.int (i / j)) else none
  | .Mod, .int i, .int j => if 0 < j then some (.int (i % j)) else none
  | .Pow, .int i, .int j => if powOk i j then some (.int (i ^ j.toNat)) else none
  | _, _, _ => none

mutual
def D.py : D → Option PyData
  | .non => some .none
  | .bl b => some (.bool b)
  | .int i => some (.int i)
  | .str x => some (.str x)
  | .tup xs => (D.pyL xs).map .tuple
  | .lst xs => (D.pyL xs).map .list
  | _ => none
def D.pyL : List D → Option (List PyData)
  | [] => some []
  | d :: r => match D.py d, D.pyL r with
    | some x, some y => some (x :: y)
    | _, _ => none
end

/-- a dict and a tuple -/
def isDT : D → D → Bool
  | .dic _ _, .tup _ => true
  | _, _ => false
def eqD (x y : D) : Option Bool := match x.py, y.py with
  | some a, some b => if SeqAt.shaped a && SeqAt.shaped b then some (PyData.eqv a b) else none
  | _, _ => if isDT x y = true then some false else none

def sign? (x : Str) : Option Nat := match x.cps.toList with
  | [c] => some c
  | _ => none

def isN : D → Option Bool
  | .non => some true
  | .ref _ => none
  | _ => some false
/-- x in a list of data -/
def inD (x : D) (ys : List D) : Option Bool := match x.py, D.pyL ys with
  | some a, some bs => if SeqAt.shaped a && SeqAt.shaped (.list bs) then some (bs.any fun z => PyData.eqv z a) else none
  | _, _ => none
/-- values of one piece -/
def flatD : D → Option V
  | .non => some .non
  | .bl b => some (.bl b)
  | .int i => some (.int i)
  | .str x => some (.str x)
  | _ => none
def flatL : List D → Option (List V)
  | [] => some []
  | d :: r => match flatD d, flatL r with
    | some v, some vs => some (v :: vs)
    | _, _ => none
/-- x in a tuple of such values -/
def inF (x : D) (ys : List D) : Option Bool := match flatD x, flatL ys with
  | some v, some vs => some (inV v vs)
  | _, _ => none
/-- x in a tuple of data of any depth -/
def inT (x : D) (ys : List D) : Option Bool := match inF x ys with
  | some b => some b
  | none => match x.py, D.pyL ys with
    | some a, some bs => if SeqAt.shaped a && SeqAt.shaped (.tuple bs) then some (bs.any fun z => PyData.eqv z a) else none
    | _, _ => none
def cmpD : CmpOp → D → D → Option Bool
  | .Lt, .int i, .int j => some (decide (i < j))
  | .LtE, .int i, .int j => some (decide (i ≤ j))
  | .Gt, .int i, .int j => some (decide (j < i))
  | .GtE, .int i, .int j => some (decide (j ≤ i))
  | .LtE, .str a, .str b => some (!decide (b.cps.toList < a.cps.toList))
  | .In, .str a, .str b => (sign? a).map fun c => decide (c ∈ b.cps.toList)
  | .In, x, .dic ks xs => (keyD x).map fun k => (dAt ks xs k).isSome
  | .In, x, .lst ys => inD x ys
  | .In, x, .tup ys => inT x ys
  | .NotIn, x, .lst ys => (inD x ys).map (!·)
  | .NotIn, x, .tup ys => (inT x ys).map (!·)
  | .Is, x, .non => (isN x).map id
  | .IsNot, x, .non => (isN x).map (!·)
  | .Is, .bl a, .bl b => some (a == b)
  | .Eq, x, y => eqD x y
  | .NotEq, x, y => (eqD x y).map (!·)
  | _, _, _ => none

def truD : D → Option Bool
  | .non => some false
  | .bl b => some b
  | .int i => some (i != 0)
  | .str x => if x.length ≤ sizeLine then some (x.length != 0) else none
  | .tup xs => some (!xs.isEmpty)
  | .lst xs => some (!xs.isEmpty)
  | _ => none

def subD (o i : D) : Option D := match o, i with
  | .str z, .int i => if z.length ≤ sizeLine then (atI z.cps.toList i).map fun c => .str ⟨#[c]⟩ else none
  | .tup xs, .int i => atI xs i
  | .lst xs, .int i => atI xs i
  | .rol xs, .int i => atI xs i
  | .dic ks xs, i => (keyD i).bind fun k => dAt ks xs k
  | _, _ => none

def cutD {α : Type} (xs : List α) (lo hi : Option Int) : List α :=
  (xs.drop (HT.sIx xs.length 0 lo)).take (HT.sIx xs.length xs.length hi - HT.sIx xs.length 0 lo)

def slcD (o : D) (lo hi : Option Int) : Option D := match o with
  | .str z => if z.length ≤ sizeLine then some (.str (cutS z lo hi)) else none
  | .lst xs => some (.lst (cutD xs lo hi))
  | .tup xs => some (.tup (cutD xs lo hi))
  | _ => none

/-- what a value is an instance of: a built-in type by its name, an own class by its number -/
inductive Ty where
  | ty (n : String)
  | own (c : Nat)
  deriving DecidableEq

def tyD : D → Option Ty
  | .non => some (.ty "NoneType")
  | .bl _ => some (.ty "bool")
  | .int _ => some (.ty "int")
  | .str _ => some (.ty "str")
  | .tup _ => some (.ty "tuple")
  | .lst _ => some (.ty "list")
  | .dic _ _ => some (.ty "dict")
  | .ins c _ => some (.own c)
  | .cls _ => none
  | .ref _ => none
  | .rol _ => none

def isiD (d : D) (t : Ty) : Option Bool := match tyD d, t with
  | some (.ty _), .own _ => some false
  | some (.own a), .own b => some (decide (a = b))
  | some (.own _), .ty b => if b ∈ ["int", "str", "tuple", "list", "dict", "bool"] then some false else none
  | some (.ty a), .ty b => if b ∈ ["int", "str", "tuple", "list", "dict", "bool"] then some (decide (a = b) || (decide (a = "bool") && decide (b = "int"))) else none
  | _, _ => none

/-- built-in functions that are served -/
inductive Blt where
  | len | abs | int | max2 | min2 | all | repr | any | sum | sorted | tuple | list
  deriving DecidableEq

def strs? : List D → Option (List Str)
  | [] => some []
  | .str x :: r => (strs? r).map (x :: ·)
  | _ => none
def bls? : List D → Option (List Bool)
  | [] => some []
  | .bl x :: r => (bls? r).map (x :: ·)
  | _ => none

def ints? : List D → Option (List Int)
  | [] => some []
  | .int x :: r => (ints? r).map (x :: ·)
  | _ => none
/-- ints in order -/
def insI (i : Int) : List Int → List Int
  | [] => [i]
  | j :: r => if i < j then i :: j :: r else j :: insI i r
def sortI : List Int → List Int
  | [] => []
  | i :: r => insI i (sortI r)
/-- ints in order, each once -/
def insU (i : Int) : List Int → List Int
  | [] => [i]
  | j :: r => if i < j then i :: j :: r else if i = j then j :: r else j :: insU i r
def srtU : List Int → List Int
  | [] => []
  | i :: r => insU i (srtU r)

/-- its text, as repr tells it -/
def shwD (d : D) : Option D := d.py.bind fun p => if p.showable = true ∧ p.hasDict = false ∧ p.shown.length ≤ sizeLine ∧ p.depth ≤ 50 then some (.str p.shown) else none
def repD : D → Option D
  | .bl b => some (.str (if b then "True" else "False"))
  | .non => some (.str "None")
  | .int i => if i.natAbs.log2 < 1920 then some (.str (Str.ofString (toString i))) else none
  | .str x => if (reprText x).length ≤ sizeLine then some (.str (reprText x)) else none
  | .dic [] [] => some (.str "{}")
  | .lst xs => shwD (.lst xs)
  | .tup xs => shwD (.tup xs)
  | _ => none
/-- keys that are ints -/
def intsK? : List Key → Option (List Int)
  | [] => some []
  | .inl i :: r => (intsK? r).map (i :: ·)
  | .inr _ :: _ => none
theorem intsK_ok : ∀ {ks : List Key} {ns : List Int}, intsK? ks = some ns → ks = ns.map Sum.inl
  | [], _, h => by
    cases h
    rfl
  | .inl i :: r, ns, h => by
    simp only [intsK?] at h
    cases e : intsK? r with
    | none =>
      rw [e] at h
      cases h
    | some ms =>
      rw [e] at h
      cases h
      rw [intsK_ok e]
      rfl
  | .inr _ :: _, _, h => by cases h
def bltD : Blt → List D → Option D
  | .len, [.str z] => if z.length ≤ sizeLine then some (.int z.length) else none
  | .len, [.tup xs] => some (.int xs.length)
  | .len, [.lst xs] => some (.int xs.length)
  | .len, [.rol xs] => some (.int xs.length)
  | .len, [.dic ks _] => some (.int ks.length)
  | .any, [.lst xs] => (bls? xs).map fun bs => .bl (bs.any id)
  | .sum, [.lst xs] => (ints? xs).map fun ns => .int ns.sum
  | .sorted, [.lst xs] => (ints? xs).bind fun ns => if ns.length < 64 then some (.lst ((sortI ns).map .int)) else none
  | .sorted, [.dic ks _] => (intsK? ks).bind fun ns => if ns.length < 64 then some (.lst ((sortI ns).map .int)) else none
  | .tuple, [.lst xs] => some (.tup xs)
  | .tuple, [.tup xs] => some (.tup xs)
  | .list, [.lst xs] => some (.lst xs)
  | .list, [.tup xs] => some (.lst xs)
  | .list, [.dic ks _] => some (.lst (ks.map kD))
  | .abs, [.int i] => some (.int (if i < 0 then -i else i))
  | .int, [.int i] => some (.int i)
  | .int, [.bl b] => some (.int (if b then 1 else 0))
  | .max2, [.int i, .int j] => some (.int (if j > i then j else i))
  | .min2, [.int i, .int j] => some (.int (if j < i then j else i))
  | .all, [.lst xs] => (bls? xs).map fun bs => .bl (bs.all id)
  | .repr, [x] => repD x
  | _, _ => none

/-- methods of built-in types that only read -/
inductive Mth where
  | join | upper
  deriving DecidableEq

/-- is the receiver of the method's own type -/
def mthTy : Mth → D → Bool
  | .join, .str _ => true
  | .upper, .str _ => true
  | _, _ => false
def mthD : Mth → D → List D → Option D
  | .join, .str a, [.lst xs] => (strs? xs).bind fun ys => if (ys.map (·.length)).sum + ys.length * a.length ≤ 16777216 then some (.str (Txt.join a ys)) else none
  | .upper, .str a, [] => if a.length ≤ 5592405 then some (.str (Txt.upper a)) else none
  | _, _, _ => none

/-! ### the language -/
inductive Tg where
  | name (i : Nat)
  | tup (ts : List Tg)

mutual
inductive E where
  | non | bl (b : Bool) | int (i : Int) | str (x : Str)
  | var (i : Nat)
  /-- the name's value as it stands: a list of the def's own is not data by this -/
  | raw (i : Nat)
  | gcon (g : Nat)
  | bin (op : Operator) (a b : E)
  | neg (a : E)
  | cmp (op : CmpOp) (a b : E)
  | chain (op op' : CmpOp) (a b c : E)
  | and (a b : E) | or (a b : E) | not (a : E)
  | ite (c : B) (a b : E)
  | tup (es : List E) | lst (es : List E)
  /-- {} -/
  | emp
  /-- *e, among items -/
  | star (e : E)
  /-- [..] and {} that their def changes -/
  | own (es : List E) | dnw
  | call (f : Nat) (es : List E)
  | blt (b : Blt) (es : List E)
  | isi (a : E) (t : Ty)
  | mth (m : Mth) (o : E) (es : List E)
  /-- d.get(k, e) -/
  | get (o k e : E)
  | sub (o i : E)
  | slc (o : E) (lo hi : Option E)
  /-- o.x, an attribute or a property -/
  | att (o : E) (x : Str)
  /-- o.x(..), a method of the object's class -/
  | met (o : E) (x : Str) (es : List E)
  /-- C(..), C( *e), C.x(..) -/
  | mk (c : Nat) (es : List E) | mks (c : Nat) (e : E) | cm (c : Nat) (x : Str) (es : List E)
  /-- [elt for tg in it if ..], vs the slots of its own names -/
  | lc (vs : List Nat) (tg : Tg) (it : I) (ifs : List B) (elt : E)
  /-- .. with two fors; vs1 the slots of the second one -/
  | lc2 (vs vs1 : List Nat) (tg : Tg) (it : I) (ifs : List B) (tg1 : Tg) (it1 : I) (ifs1 : List B) (elt : E)
  /-- o.pop(i), o an own list; list(e) that its def changes -/
  | pop (o i : E) | ownl (e : E)
  /-- o.count(x), sorted(set(e)), e[::-1] -/
  | cnt (o x : E) | sset (e : E) | rev (e : E)
  /-- f'..', its parts: texts and what is shown; str(e) -/
  | fs (es : List E) | strf (e : E)
  /-- f(lambda: e), f the number of a catcher -/
  | lam (f : Nat) (e : E)
/-- tests -/
inductive B where
  | val (e : E)
  | cmp (op : CmpOp) (a b : E)
  | chain (op op' : CmpOp) (a b c : E)
  | not (a : B) | and (a b : B) | or (a b : B)
/-- what is walked -/
inductive I where
  | val (e : E)
  | rng1 (a : E) | rng2 (a b : E)
  | zip (a b : E) | enum (a : E)
end

/-- what a clause hands back; e its exception -/
inductive HE where
  | con (d : D)
  /-- x + repr(e.a), x + e.a, e.a -/
  | rep (x a : Str) | cat (x a : Str) | att (a : Str)
  /-- x if isinstance(e, c) else y -/
  | isi (c : Nat) (x y : Str)
/-- except c as (slot): return .. -/
structure Hd where
  c : Nat
  sl : Option Nat
  he : HE
/-- patterns: a text, a name, anything; one of these, a tuple of these, one of some texts -/
inductive P1 where
  | lit (x : Str) | nm (i : Nat) | wild
inductive Pt where
  | one (p : P1) | seq (ps : List P1) | or (xs : List Str)
/-- a def that calls what it got, within a try: whether it hands back what comes, its clauses, what it hands back else -/
structure Cat where
  ret : Bool
  hs : List Hd
  fin : Option D

inductive S where
  | asg (tg : Tg) (e : E)
  /-- a, b = e, f (two local names) -/
  | par (i j : Nat) (a b : E)
  /-- x[i] = e, x in slot k a list that is shared or own, or an own dict -/
  | put (k : Nat) (i e : E)
  /-- x.f = e, x in slot k an object in the making -/
  | fld (k : Nat) (x : Str) (e : E)
  /-- x.append(e), x.extend(e) -/
  | app (k : Nat) (e : E) | ext (k : Nat) (e : E)
  | ife (c : B) (a b : List S)
  | for (tg : Tg) (it : I) (body : List S)
  | ret (e : E)
  | retN
  /-- return of a new list, to be shared -/
  | retS (es : List E)
  | expr (e : E)
  | pass | brk | cont
  /-- any statement: never reached -/
  | dead
  /-- raise C(e) with an attribute, raise C('..') without -/
  | rai (c : Nat) (e : E) | rai0 (c : Nat)
  | tri (body : List S) (hs : List Hd)
  /-- match e: its cases, one behind the other -/
  | mat (e : E) (c : S) | cas (p : Pt) (b : List S) (r : S) | nomore
  /-- x op= e -/
  | aug (i : Nat) (op : Operator) (e : E)
  /-- while c: body, at most n turns -/
  | whl (n : Nat) (c : B) (body : List S)

/-- a class: its attributes in order, its __init__, its methods, properties, classmethods (numbers of defs) -/
structure Cl where
  fs : List Str
  ini : Nat
  ms : List (Str × Nat)
  ps : List (Str × Nat)
  cs : List (Str × Nat)
/-- a class of exceptions: its attribute, the numbers of what it is (itself among them) -/
structure Xc where
  att : Option Str
  up : List Nat
/-- pfn: the same defs, those alone that show nothing -/
structure TabX where
  pfn : List (List D → M D)
  cats : List Cat
  xcs : List Xc
structure Tab where
  fns : List (List D → M D)
  cons : List D
  cls : List Cl
  x : TabX
def Tab.plain (T : Tab) : Tab := ⟨T.x.pfn, T.cons, T.cls, T.x⟩

inductive Fl where
  | next | brk | cont | ret (d : D) | exc (x : Exc)

mutual
def bindT : Tg → D → Rho → Option Rho
  | .name i, d, ρ => some (ρ.set i (some d))
  | .tup ts, .tup ds, ρ => bindTs ts ds ρ
  | .tup ts, .lst ds, ρ => bindTs ts ds ρ
  | _, _, _ => none
def bindTs : List Tg → List D → Rho → Option Rho
  | [], [], ρ => some ρ
  | t :: ts, d :: ds, ρ => match bindT t d ρ with
    | some ρ' => bindTs ts ds ρ'
    | none => none
  | _, _, _ => none
end

def wipeR (ρ : Rho) : List Nat → Rho
  | [] => ρ
  | v :: vs => (wipeR ρ vs).set v none

/-- a comprehension's turns over the items: f the test, g the elements that a turn gives -/
def lcM (b : D → Option Rho) (f : Rho → M Bool) (g : Rho → M (List D)) : List D → M (List D)
  | [] => rt []
  | x :: r => fun μ => match b x with
    | none => none
    | some ρ => bd (f ρ) (fun c => if c then bd (g ρ) fun y => bd (lcM b f g r) fun ys => rt (y ++ ys) else lcM b f g r) μ
/-- one element -/
def one1 (x : M D) : M (List D) := bd x fun y => rt [y]

/-- the items of a range -/
def rngD (lo : Int) : Nat → List D
  | 0 => []
  | n + 1 => .int lo :: rngD (lo + 1) n
def rngOk (i : Int) : Bool := decide (-(2 ^ 62) ≤ i ∧ i < 2 ^ 62)
/-- what is walked -/
def itemsD : D → Option (List D)
  | .lst xs => some xs
  | .tup xs => some xs
  | .str z => some (z.cps.toList.map fun c => .str ⟨#[c]⟩)
  | _ => none
/-- the items of a list or a tuple -/
def seqD : D → Option (List D)
  | .lst xs => some xs
  | .tup xs => some xs
  | _ => none
def zipD (xs ys : List D) : List D := List.zipWith (fun x y => .tup [x, y]) xs ys
/-- zip of two sequences -/
def zipK (x y : D) : Option (List D) := match seqD x, seqD y with
  | some xs, some ys => some (zipD xs ys)
  | _, _ => none
def enumD (i : Nat) : List D → List D
  | [] => []
  | x :: r => .tup [.int i, x] :: enumD (i + 1) r

/-- an item leaves an own list -/
def popC (μ : Store) (o : D) (i : Int) : Option (D × Store) := match o with
  | .ref k => match μ[k]? with
    | some (.own xs) => if -(2 ^ 63) ≤ i ∧ i < 2 ^ 63 then (ixN xs.length i).bind fun j => (xs[j]?).map fun d => (d, μ.set k (.own (xs.eraseIdx j))) else none
    | _ => none
  | _ => none
def isOwn (μ : Store) : D → Bool
  | .ref k => match μ[k]? with
    | some (.own _) => true
    | _ => false
  | _ => false
def isLst : D → Bool
  | .lst _ => true
  | _ => false
/-- how often an int stands in a list of ints -/
def cntD (l y : D) : M D := fun μ => match l, y with
  | .lst xs, .int k => (match ints? xs with
    | some ns => some (.ok (.int (ns.count k)), μ)
    | none => none)
  | _, _ => none
/-- as it is shown in a text -/
def fmtD : D → Option Str
  | .str x => if x.length ≤ sizeLine then some x else none
  | .int i => if i.natAbs.log2 < 1920 then some (Str.ofString (toString i)) else none
  | _ => none
/-! ### objects -/
def callT (T : Tab) (f : Nat) (ds : List D) : M D := match T.fns[f]? with
  | some g => g ds
  | none => up none
/-- o.x -/
def attT (T : Tab) (x : Str) (d : D) : M D := fun μ => match objOf μ d with
  | some (c, fs) => match T.cls[c]? with
    | some C => match C.fs.idxOf? x with
      | some i => up fs[i]? μ
      | none => match C.ps.lookup x with
        | some f => callT T f [d] μ
        | none => none
    | none => none
  | none => none
/-- the number of a method -/
def metN (T : Tab) (μ : Store) (x : Str) (d : D) : Option Nat := match objOf μ d with
  | some (c, _) => match T.cls[c]? with
    | some C => C.ms.lookup x
    | none => none
  | none => none
/-- a new object -/
def mkT (T : Tab) (c : Nat) (ds : List D) : M D := fun μ => match T.cls[c]? with
  | none => none
  | some C => match callT T C.ini (.ref μ.length :: ds) (μ ++ [.obj c []]) with
    | some (.ok .non, μ') => match μ'[μ.length]? with
      | some (.obj c' fs) => if c' = c ∧ fs.length = C.fs.length ∧ μ'.length = μ.length + 1 then some (.ok (.ins c fs), μ'.take μ.length) else none
      | _ => none
    | some (.error x, μ') => if D.nrL x.ds then some (.error x, μ'.take μ.length) else none
    | _ => none
/-- an operator's method, if the left one is an object -/
def opN (T : Tab) (μ : Store) (x : Str) : D → Option Nat
  | .ins c _ => (T.cls[c]?).bind fun C => C.ms.lookup x
  | _ => none
def cmpNm : CmpOp → Option Str
  | .Lt => some "__lt__"
  | .LtE => some "__le__"
  | .Gt => some "__gt__"
  | .GtE => some "__ge__"
  | .Eq => some "__eq__"
  | _ => none
def binNm : Operator → Option Str
  | .Add => some "__add__"
  | .BitOr => some "__or__"
  | _ => none
def sameC : D → D → Bool
  | .ins c _, .ins c' _ => c == c'
  | _, _ => false
/-- x op y, also of objects of one class -/
def cmpT (T : Tab) (op : CmpOp) (x y : D) : M D := fun μ => if sameC x y then (match (cmpNm op).bind fun n => opN T μ n x with
  | some f => callT T f [x, y] μ
  | none => none) else up ((cmpD op (look μ x) (look μ y)).map .bl) μ
def binT (T : Tab) (op : Operator) (x y : D) : M D := fun μ => if sameC x y then (match (binNm op).bind fun n => opN T μ n x with
  | some f => callT T f [x, y] μ
  | none => none) else up (binD op (look μ x) (look μ y)) μ
def isIns : D → Bool
  | .ins _ _ => true
  | _ => false
/-- o[i], also of an object -/
def subT (T : Tab) (o i : D) : M D := fun μ => if isIns o then (match opN T μ "__getitem__" o with
  | some f => callT T f [o, i] μ
  | none => none) else up (subD (look μ o) (look μ i)) μ
/-! ### exceptions -/
def xat (X : List Xc) (x : Exc) (a : Str) : Option D := match X[x.c]?, x.ds with
  | some k, [d] => if k.att = some a then some d else none
  | _, _ => none
def hdE (X : List Xc) (x : Exc) : HE → Option D
  | .con d => some d
  | .rep y a => (xat X x a).bind fun d => (repD d).bind fun z => binD .Add (.str y) z
  | .cat y a => (xat X x a).bind fun d => binD .Add (.str y) d
  | .att a => xat X x a
  | .isi c y z => (X[x.c]?).bind fun k => if k.att = none then some (if c ∈ k.up then .str y else .str z) else none
/-- the clauses, one after the other; none inside: no clause is meant -/
def hdl (X : List Xc) (x : Exc) : List Hd → Option (Option D)
  | [] => some none
  | h :: r => match X[x.c]? with
    | none => none
    | some k => if h.c ∈ k.up then (hdE X x h.he).map some else hdl X x r
def catM (X : List Xc) (c : Cat) (th : M D) : M D := fun μ => match th μ with
  | some (.ok d, μ') => if c.ret then some (.ok d, μ') else c.fin.map fun d => (.ok d, μ')
  | some (.error x, μ') => match hdl X x c.hs with
    | some (some d) => some (.ok d, μ')
    | _ => none
  | none => none
/-! ### patterns -/
def mat1 : P1 → D → Option (Option (List (Nat × D)))
  | .lit x, d => (eqD d (.str x)).map fun b => if b then some [] else none
  | .nm i, d => some (some [(i, d)])
  | .wild, _ => some (some [])
def matL : List P1 → List D → Option (Option (List (Nat × D)))
  | [], [] => some (some [])
  | p :: ps, d :: ds => match mat1 p d with
    | none => none
    | some none => some none
    | some (some bs) => match matL ps ds with
      | none => none
      | some none => some none
      | some (some cs) => some (some (bs ++ cs))
  | _, _ => none
def matO : List Str → D → Option (Option (List (Nat × D)))
  | [], _ => some none
  | x :: xs, d => match eqD d (.str x) with
    | none => none
    | some true => some (some [])
    | some false => matO xs d
def matP : Pt → D → Option (Option (List (Nat × D)))
  | .one p, d => mat1 p d
  | .seq ps, .tup ds => if ds.length = ps.length then matL ps ds else some none
  | .seq _, _ => none
  | .or xs, d => matO xs d
def bindsR : List (Nat × D) → Rho → Rho
  | [], ρ => ρ
  | (i, d) :: r, ρ => bindsR r (ρ.set i (some d))
def boolM (x : M D) : M Bool := bd x fun d => match d with
  | .bl b => rt b
  | _ => up none

mutual
def evalE (T : Tab) : E → Rho → M D
  | .non, _ => rt .non
  | .bl b, _ => rt (.bl b)
  | .int i, _ => rt (.int i)
  | .str x, _ => rt (.str x)
  | .var i, ρ => match ρ[i]? with
    | some (some d) => frzD d
    | _ => up none
  | .raw i, ρ => match ρ[i]? with
    | some (some d) => rt d
    | _ => up none
  | .gcon g, _ => up T.cons[g]?
  | .bin op a b, ρ => bd (evalE T a ρ) fun x => bd (evalE T b ρ) fun y => binT T op x y
  | .neg a, ρ => bd (evalE T a ρ) fun x => match x with
    | .int i => rt (.int (-i))
    | _ => up none
  | .cmp op a b, ρ => bd (evalE T a ρ) fun x => bd (evalE T b ρ) fun y => cmpT T op x y
  | .chain op op' a b c, ρ => bd (evalE T a ρ) fun x => bd (evalE T b ρ) fun y => bd (fun μ => up (cmpD op (look μ x) (look μ y)) μ) fun k =>
    if k then bd (evalE T c ρ) fun z μ => up ((cmpD op' (look μ y) (look μ z)).map .bl) μ else rt (.bl false)
  | .and a b, ρ => bd (evalE T a ρ) fun x => match x with
    | .bl true => evalE T b ρ
    | .bl false => rt (.bl false)
    | _ => up none
  | .or a b, ρ => bd (evalE T a ρ) fun x => match x with
    | .bl false => evalE T b ρ
    | .bl true => rt (.bl true)
    | _ => up none
  | .not a, ρ => bd (evalE T a ρ) fun x => match x with
    | .bl k => rt (.bl (!k))
    | _ => up none
  | .ite c a b, ρ => bd (evalT T c ρ) fun k => if k then evalE T a ρ else evalE T b ρ
  | .tup es, ρ => bd (evalL T es ρ) fun ds => if ds.length ≤ sizeLine then rt (.tup ds) else up none
  | .lst es, ρ => bd (evalL T es ρ) fun ds => if ds.length ≤ sizeLine then rt (.lst ds) else up none
  | .emp, _ => rt (.dic [] [])
  | .star _, _ => up none
  | .own es, ρ => bd (evalL T es ρ) fun ds μ => if ds.length ≤ sizeLine ∧ D.nrL ds = true then some (.ok (.ref μ.length), μ ++ [.own ds]) else none
  | .dnw, _ => fun μ => some (.ok (.ref μ.length), μ ++ [.dct [] []])
  | .call f es, ρ => bd (evalL T es ρ) fun ds => callT T f ds
  | .blt b es, ρ => bd (evalL T es ρ) fun ds μ => match b, ds with
    | .len, [.ins c fs] => (match opN T μ "__len__" (.ins c fs) with
      | some f => bd (callT T f [.ins c fs]) (fun d => match d with
        | .int n => if 0 ≤ n ∧ n < 2 ^ 62 then rt (.int n) else up none
        | _ => up none) μ
      | none => none)
    | b, ds => up (bltD b (ds.map (look μ))) μ
  | .isi a t, ρ => bd (evalE T a ρ) fun x μ => up ((isiD (look μ x) t).map .bl) μ
  | .mth m o es, ρ => bd (evalE T o ρ) fun x => if mthTy m x then bd (evalL T es ρ) fun ds => up (mthD m x ds) else up none
  | .get o k e, ρ => bd (evalE T o ρ) fun x μ => match look μ x with
    | .dic _ _ => bd (evalE T k ρ) (fun y => bd (evalE T e ρ) fun z μ' => match look μ' x, keyD y with
      | .dic ks xs, some k => some (.ok ((dAt ks xs k).getD z), μ')
      | _, _ => none) μ
    | _ => none
  | .sub o i, ρ => bd (evalE T o ρ) fun x => bd (evalE T i ρ) fun y => subT T x y
  | .slc o lo hi, ρ => bd (evalE T o ρ) fun x => bd (evalO T lo ρ) fun l => bd (evalO T hi ρ) fun h μ => up (slcD (look μ x) l h) μ
  | .att o x, ρ => bd (evalE T o ρ) fun d => attT T x d
  | .met o x es, ρ => bd (evalE T o ρ) fun d μ => match metN T μ x d with
    | some f => bd (evalL T es ρ) (fun ds => callT T f (d :: ds)) μ
    | none => none
  | .mk c es, ρ => bd (evalL T es ρ) fun ds => mkT T c ds
  | .mks c e, ρ => bd (evalE T e ρ) fun d => match seqD d with
    | some ds => mkT T c ds
    | none => up none
  | .cm c x es, ρ => match (T.cls[c]?).bind fun C => C.cs.lookup x with
    | some f => bd (evalL T es ρ) fun ds => callT T f (.cls c :: ds)
    | none => up none
  | .lc vs tg it ifs elt, ρ => bd (evalI T it ρ) fun ds => bd (sure (lcM (fun d => bindT tg d (wipeR ρ vs)) (fun ρ' => evalTs T ifs ρ') (fun ρ' => one1 (evalE T elt ρ')) ds)) fun ys =>
    if ys.length ≤ sizeLine then rt (.lst ys) else up none
  | .lc2 vs vs1 tg it ifs tg1 it1 ifs1 elt, ρ => bd (evalI T it ρ) fun ds => bd (sure (lcM (fun d => bindT tg d (wipeR ρ vs)) (fun ρ' => evalTs T ifs ρ')
      (fun ρ' => bd (evalI T it1 ρ') fun ds1 => lcM (fun d => bindT tg1 d (wipeR ρ' vs1)) (fun ρ2 => evalTs T ifs1 ρ2) (fun ρ2 => one1 (evalE T elt ρ2)) ds1) ds)) fun ys =>
    if ys.length ≤ sizeLine then rt (.lst ys) else up none
  | .pop o i, ρ => bd (evalE T o ρ) fun o μ => if isOwn μ o then bd (evalE T i ρ) (fun y μ' => match y with
    | .int i => (match popC μ' o i with
      | some (d, μ2) => some (.ok d, μ2)
      | none => none)
    | _ => none) μ else none
  | .ownl e, ρ => bd (evalE T e ρ) fun d μ => match seqD (look μ d) with
    | some xs => if D.nrL xs = true then some (.ok (.ref μ.length), μ ++ [.own xs]) else none
    | none => none
  | .cnt o x, ρ => bd (evalE T o ρ) fun d μ => if isLst (look μ d) then bd (evalE T x ρ) (fun y μ' => cntD (look μ' d) y μ') μ else none
  | .sset e, ρ => bd (evalE T e ρ) fun d μ => match look μ d with
    | .lst xs => (match ints? xs with
      | some ns => if ns.length < 64 then some (.ok (.lst ((srtU ns).map .int)), μ) else none
      | none => none)
    | _ => none
  | .rev e, ρ => bd (evalE T e ρ) fun d μ => match look μ d with
    | .lst xs => some (.ok (.lst xs.reverse), μ)
    | _ => none
  | .fs es, ρ => bd (evalF T es ρ Str.empty) fun x => rt (.str x)
  | .strf e, ρ => bd (evalE T e ρ) fun d μ => match d with
    | .ins c fs => (match opN T μ "__str__" (.ins c fs) with
      | some f => bd (callT T f [.ins c fs]) (fun z => match z with
        | .str x => rt (.str x)
        | _ => up none) μ
      | none => none)
    | d => up ((fmtD d).map .str) μ
  | .lam f e, ρ => match T.x.cats[f]? with
    | some c => catM T.x.xcs c (evalE T.plain e ρ)
    | none => up none
/-- the parts of a text, one behind the other -/
def evalF (T : Tab) : List E → Rho → Str → M Str
  | [], _, acc => rt acc
  | e :: es, ρ, acc => bd (evalE T e ρ) fun d => match fmtD d with
    | some y => if (acc ++ y).length ≤ sizeLine then evalF T es ρ (acc ++ y) else up none
    | none => up none
def evalT (T : Tab) : B → Rho → M Bool
  | .val e, ρ => bd (evalE T e ρ) fun x μ => up (truD (look μ x)) μ
  | .cmp op a b, ρ => bd (evalE T a ρ) fun x => bd (evalE T b ρ) fun y => boolM (cmpT T op x y)
  | .chain op op' a b c, ρ => bd (evalE T a ρ) fun x => bd (evalE T b ρ) fun y => bd (fun μ => up (cmpD op (look μ x) (look μ y)) μ) fun k =>
    if k then bd (evalE T c ρ) fun z μ => up (cmpD op' (look μ y) (look μ z)) μ else rt false
  | .not a, ρ => bd (evalT T a ρ) fun k => rt (!k)
  | .and a b, ρ => bd (evalT T a ρ) fun k => if k then evalT T b ρ else rt false
  | .or a b, ρ => bd (evalT T a ρ) fun k => if k then rt true else evalT T b ρ
def evalL (T : Tab) : List E → Rho → M (List D)
  | [], _ => rt []
  | .star e :: es, ρ => bd (evalE T e ρ) fun x => match seqD x with
    | some ys => bd (evalL T es ρ) fun xs => rt (ys ++ xs)
    | none => up none
  | e :: es, ρ => bd (evalE T e ρ) fun x => bd (evalL T es ρ) fun xs => rt (x :: xs)
def evalO (T : Tab) : Option E → Rho → M (Option Int)
  | none, _ => rt none
  | some e, ρ => bd (evalE T e ρ) fun x => match x with
    | .int i => rt (some i)
    | _ => up none
def evalTs (T : Tab) : List B → Rho → M Bool
  | [], _ => rt true
  | e :: es, ρ => bd (evalT T e ρ) fun k => if k then evalTs T es ρ else rt false
def evalI (T : Tab) : I → Rho → M (List D)
  | .val e, ρ => bd (evalE T e ρ) fun x => up (itemsD x)
  | .rng1 a, ρ => bd (evalE T a ρ) fun x => match x with
    | .int j => if rngOk j then rt (rngD 0 j.toNat) else up none
    | _ => up none
  | .rng2 a b, ρ => bd (evalE T a ρ) fun x => bd (evalE T b ρ) fun y => match x, y with
    | .int i, .int j => if rngOk i && rngOk j then rt (rngD i (j - i).toNat) else up none
    | _, _ => up none
  | .zip a b, ρ => bd (evalE T a ρ) fun x => bd (evalE T b ρ) fun y => up (zipK x y)
  | .enum a, ρ => bd (evalE T a ρ) fun x => match x with
    | .lst xs => rt (enumD 0 xs)
    | _ => up none
end

/-- the turns of a for: b binds the item, f runs the body -/
def forM (b : D → Rho → Option Rho) (f : Rho → Store → Option (Fl × Rho × Store)) : List D → Rho → Store → Option (Fl × Rho × Store)
  | [], ρ, μ => some (.next, ρ, μ)
  | x :: r, ρ, μ => match b x ρ with
    | none => none
    | some ρ1 => match f ρ1 μ with
      | some (.next, ρ2, μ2) => forM b f r ρ2 μ2
      | some (.cont, ρ2, μ2) => forM b f r ρ2 μ2
      | some (.brk, ρ2, μ2) => some (.next, ρ2, μ2)
      | z => z

/-- a statement's end from an expression's -/
def andS {α : Type} (x : M α) (ρ : Rho) (k : α → Store → Option (Fl × Rho × Store)) (μ : Store) : Option (Fl × Rho × Store) := match x μ with
  | none => none
  | some (.error e, μ') => some (.exc e, ρ, μ')
  | some (.ok a, μ') => k a μ'

/-- the turns of a while -/
def whlM (t : Rho → M Bool) (f : Rho → Store → Option (Fl × Rho × Store)) : Nat → Rho → Store → Option (Fl × Rho × Store)
  | 0, _, _ => none
  | n + 1, ρ, μ => andS (t ρ) ρ (fun k μ1 => if k then (match f ρ μ1 with
    | some (.next, ρ2, μ2) => whlM t f n ρ2 μ2
    | some (.cont, ρ2, μ2) => whlM t f n ρ2 μ2
    | some (.brk, ρ2, μ2) => some (.next, ρ2, μ2)
    | z => z) else some (.next, ρ, μ1)) μ
def augOk : Operator → Bool
  | .Add => true
  | .Sub => true
  | _ => false
/-- a store into a list or a dict -/
def putC (μ : Store) (o i d : D) : Option Store := match o with
  | .ref k => if d.nr then (match μ[k]?, i with
    | some (.own xs), .int i => (ixN xs.length i).map fun j => μ.set k (.own (xs.set j d))
    | some (.shr xs), .int i => (ixN xs.length i).map fun j => μ.set k (.shr (xs.set j d))
    | some (.dct ks xs), i => (keyD i).bind fun y => if ks.length < sizeLine then some (μ.set k (if (ks.zip xs).any (fun p => decide (p.1 = y)) then .dct ks (dPutX ks xs y d) else .dct (ks ++ [y]) (xs ++ [d]))) else none
    | _, _ => none) else none
  | _ => none
/-- a store into an object -/
def fldC (T : Tab) (μ : Store) (o : D) (x : Str) (d : D) : Option Store := match o with
  | .ref k => if d.nr then (match μ[k]? with
    | some (.obj c fs) => (T.cls[c]?).bind fun C => (C.fs.idxOf? x).bind fun i => if i < fs.length then some (μ.set k (.obj c (fs.set i d))) else if i = fs.length then some (μ.set k (.obj c (fs ++ [d]))) else none
    | _ => none) else none
  | _ => none
/-- more items of an own list -/
def appC (μ : Store) (o : D) (ds : List D) : Option Store := match o with
  | .ref k => match μ[k]? with
    | some (.own xs) => if D.nrL ds = true ∧ xs.length + ds.length ≤ sizeLine then some (μ.set k (.own (xs ++ ds))) else none
    | _ => none
  | _ => none

mutual
def execS (T : Tab) : S → Rho → Store → Option (Fl × Rho × Store)
  | .asg tg e, ρ, μ => andS (evalE T e ρ) ρ (fun d μ' => (bindT tg d ρ).map fun ρ' => (.next, ρ', μ')) μ
  | .par i j a b, ρ, μ => andS (evalE T a ρ) ρ (fun x μ1 => andS (evalE T b ρ) ρ (fun y μ2 => some (.next, (ρ.set i (some x)).set j (some y), μ2)) μ1) μ
  | .put k i e, ρ, μ => andS (evalE T e ρ) ρ (fun d μ1 => andS (evalE T (.raw k) ρ) ρ (fun o μ2 => andS (evalE T i ρ) ρ (fun x μ3 => (putC μ3 o x d).map fun μ4 => (.next, ρ, μ4)) μ2) μ1) μ
  | .fld k x e, ρ, μ => andS (evalE T e ρ) ρ (fun d μ1 => andS (evalE T (.raw k) ρ) ρ (fun o μ2 => (fldC T μ2 o x d).map fun μ4 => (.next, ρ, μ4)) μ1) μ
  | .app k e, ρ, μ => andS (evalE T (.raw k) ρ) ρ (fun o μ1 => if (appC μ1 o []).isSome then andS (evalE T e ρ) ρ (fun d μ2 => (appC μ2 o [d]).map fun μ3 => (.next, ρ, μ3)) μ1 else none) μ
  | .ext k e, ρ, μ => andS (evalE T (.raw k) ρ) ρ (fun o μ1 => if (appC μ1 o []).isSome then andS (evalE T e ρ) ρ (fun d μ2 => match d with
    | .lst ds => (appC μ2 o ds).map fun μ3 => (.next, ρ, μ3)
    | _ => none) μ1 else none) μ
  | .ife c a b, ρ, μ => andS (evalT T c ρ) ρ (fun k μ' => if k then execL T a ρ μ' else execL T b ρ μ') μ
  | .for tg it body, ρ, μ => andS (evalI T it ρ) ρ (fun ds μ' => forM (fun d ρ => bindT tg d ρ) (fun ρ μ => execL T body ρ μ) ds ρ μ') μ
  | .ret e, ρ, μ => andS (evalE T e ρ) ρ (fun d μ' => some (.ret d, ρ, μ')) μ
  | .retN, ρ, μ => some (.ret .non, ρ, μ)
  | .retS es, ρ, μ => andS (evalL T es ρ) ρ (fun ds μ' => if ds.length ≤ sizeLine ∧ D.nrL ds = true then some (.ret (.ref μ'.length), ρ, μ' ++ [.shr ds]) else none) μ
  | .expr e, ρ, μ => andS (evalE T e ρ) ρ (fun _ μ' => some (.next, ρ, μ')) μ
  | .pass, ρ, μ => some (.next, ρ, μ)
  | .brk, ρ, μ => some (.brk, ρ, μ)
  | .cont, ρ, μ => some (.cont, ρ, μ)
  | .dead, _, _ => none
  | .rai c e, ρ, μ => match T.x.xcs[c]? with
    | some k => if k.att.isSome then andS (evalE T e ρ) ρ (fun d μ' => some (.exc ⟨c, [d]⟩, ρ, μ')) μ else none
    | none => none
  | .rai0 c, ρ, μ => match T.x.xcs[c]? with
    | some k => if k.att.isNone then some (.exc ⟨c, []⟩, ρ, μ) else none
    | none => none
  | .tri body hs, ρ, μ => match execL T body ρ μ with
    | some (.exc x, ρ', μ') => match hdl T.x.xcs x hs with
      | some (some d) => some (.ret d, ρ', μ')
      | some none => some (.exc x, ρ', μ')
      | none => none
    | z => z
  | .mat e c, ρ, μ => andS (evalE T e ρ) ρ (fun d μ' => execC T c d ρ μ') μ
  | .cas _ _ _, _, _ => none
  | .nomore, _, _ => none
  | .aug i op e, ρ, μ => match ρ[i]? with
    | some (some (.int a)) => andS (evalE T e ρ) ρ (fun d μ' => match d with
      | .int b => if augOk op then (binD op (.int a) (.int b)).map fun z => (.next, ρ.set i (some z), μ') else none
      | _ => none) μ
    | _ => none
  | .whl n c body, ρ, μ => whlM (fun ρ => evalT T c ρ) (fun ρ μ => execL T body ρ μ) n ρ μ
def execC (T : Tab) : S → D → Rho → Store → Option (Fl × Rho × Store)
  | .cas p b r, d, ρ, μ => match matP p d with
    | none => none
    | some none => execC T r d ρ μ
    | some (some bs) => execL T b (bindsR bs ρ) μ
  | .nomore, _, ρ, μ => some (.next, ρ, μ)
  | _, _, _, _ => none
def execL (T : Tab) : List S → Rho → Store → Option (Fl × Rho × Store)
  | [], ρ, μ => some (.next, ρ, μ)
  | s :: r, ρ, μ => match execS T s ρ μ with
    | some (.next, ρ1, μ1) => execL T r ρ1 μ1
    | z => z
end

def startR (n : Nat) (ds : List D) : Rho := ds.map some ++ List.replicate (n - ds.length) none
/-- a def: n slots, its body; what it hands back holds no cell of its own -/
def runB (T : Tab) (n : Nat) (body : List S) (ds : List D) : M D := fun μ => match execL T body (startR n ds) μ with
  | some (.ret d, _, μ') => if d.nr then some (.ok d, μ'.take μ.length) else none
  | some (.next, _, μ') => some (.ok .non, μ'.take μ.length)
  | some (.exc x, _, μ') => if D.nrL x.ds then some (.error x, μ'.take μ.length) else none
  | _ => none
/-- a def that hands back a new shared list -/
def runN (T : Tab) (n : Nat) (body : List S) (ds : List D) : M D := fun μ => match execL T body (startR n ds) μ with
  | some (.ret (.ref k), _, μ') => match μ'[k]? with
    | some (.shr xs) => if μ.length ≤ k then some (.ok (.ref μ.length), μ'.take μ.length ++ [.shr xs]) else none
    | _ => none
  | _ => none

/-- a def's own work, with its number of parameters -/
def fnB (T : Tab) (n : Nat) (np : Nat) (body : List S) : List D → M D := fun ds μ => if ds.length = np then runB T n body ds μ else none
def fnN (T : Tab) (n : Nat) (np : Nat) (body : List S) : List D → M D := fun ds μ => if ds.length = np then runN T n body ds μ else none
/-- a def with a star parameter behind np plain ones -/
def fnS (T : Tab) (n : Nat) (np : Nat) (body : List S) : List D → M D := fun ds μ => if np ≤ ds.length ∧ ds.length ≤ sizeLine then runB T n body (ds.take np ++ [.tup (ds.drop np)]) μ else none
/-- a def that is never called -/
def noF : List D → M D := fun _ _ => none
end Sg
/-! SgZ: zip of two sequences, each a list or a tuple (t = true: a tuple). -/
namespace Sg
open PySem PySem.Spec PyProof.Rows L2
def SqB (t : Bool) (h : Heap) (l : Addr) (us : Array Value) : Prop := match t with
  | true => h.IsTuple l us
  | false => h.IsList l us
def ItB (t : Bool) (h : Heap) (c l : Addr) (k : Nat) : Prop := match t with
  | true => h.IsTupleIter c l k
  | false => h.IsListIter c l k
theorem SqB.ext {t : Bool} {h g : Heap} {l b : Addr} {us : Array Value} (x : SqB t h l us) (e : Heap.ExtBut b h g) (n : l ≠ b) : SqB t g l us := by
  cases t
  · exact Heap.IsList.extBut x e n
  · exact Heap.IsTuple.extBut x e n
theorem ItB.ext {t : Bool} {h g : Heap} {c l b : Addr} {k : Nat} (x : ItB t h c l k) (e : Heap.ExtBut b h g) (n : c ≠ b) : ItB t g c l k := by
  cases t
  · exact Heap.IsListIter.extBut x e n
  · exact Heap.IsTupleIter.extBut x e n
theorem ItB.at {t : Bool} {h g : Heap} {c l : Addr} {k : Nat} (x : ItB t h c l k) (e : ∀ o, h.get? c = some o → g.get? c = some o) : ItB t g c l k := by
  cases t
  · exact Heap.IsListIter.at x e
  · exact Heap.IsTupleIter.at x e
theorem ItB.obj {t : Bool} {h : Heap} {c l : Addr} {k : Nat} (x : ItB t h c l k) : ∃ o, h.get? c = some o ∧ ∀ v, o.data ≠ .cell v := by
  cases t
  all_goals
    obtain ⟨o, e, _, d⟩ := x
    exact ⟨o, e, fun v q => by rw [d] at q; cases q⟩
theorem ItB.lt {t : Bool} {h : Heap} {c l : Addr} {k : Nat} (x : ItB t h c l k) : c < h.objs.size := by
  obtain ⟨o, e, _⟩ := x.obj
  exact Heap.lt_size e
theorem SqB.lt {t : Bool} {h : Heap} {l : Addr} {us : Array Value} (x : SqB t h l us) : l < h.objs.size := by
  cases t
  all_goals
    obtain ⟨o, e, _⟩ := x
    exact Heap.lt_size e
section
variable {P : Program} {w : World} {A : Around} {E : Value → Shared → Prop} {s : Shared}
theorem nxB_item {t : Bool} {c l : Addr} {k : Nat} {us : Array Value} {u : Value} {Q : Value → Shared → Prop} (hc : ItB t s.heap c l k) (hl : SqB t s.heap l us) (hu : us[k]? = some u)
    (q : ∀ g, ItB t g c l (k + 1) → Heap.SameBut c s.heap g → Q u { s with heap := g }) : wpAny (model P w) A (Builtin.SmallTypes.nextOf (.ref c)) Q E s := by
  cases t
  · exact wpAny_nextOf_list_item hc hl hu q
  · exact RZ.nextOf_tuple_item hc hl hu q
theorem nxB_end {t : Bool} {c l : Addr} {k : Nat} {us : Array Value} {Q : Value → Shared → Prop} (hh : A.handled = none) (hc : ItB t s.heap c l k) (hl : SqB t s.heap l us) (hu : us[k]? = none)
    (q : ∀ g e, Heap.ExtBut c s.heap g → (∃ o, g.get? e = some o ∧ o.cls = .type "StopIteration") → E (.ref e) { s with heap := g }) : wpAny (model P w) A (Builtin.SmallTypes.nextOf (.ref c)) Q E s := by
  cases t
  · exact wpAny_nextOf_list_end hh hc hl hu q
  · exact RZ.nextOf_tuple_end hh hc hl hu q
/-- the next pair -/
theorem zipB_item {t t' : Bool} {zz ti to j1 j2 m1 m2 : Addr} {n1 n2 : Nat} {us vs : Array Value} {u v a b : Value} {Q : Value → Shared → Prop} (D : ZipApart zz ti to j1 j2 m1 m2)
    (gz : IsZip s.heap zz ti to .none) (gi : IsPair s.heap ti (.ref j1) (.ref j2)) (go : IsPair s.heap to a b)
    (c1 : ItB t s.heap j1 m1 n1) (c2 : ItB t' s.heap j2 m2 n2) (q1 : SqB t s.heap m1 us) (q2 : SqB t' s.heap m2 vs) (hu : us[n1]? = some u) (hv : vs[n2]? = some v)
    (hQ : ∀ g, IsZip g zz ti to (rawInt s.heap.objs.size) → IsPair g to u v → ItB t g j1 m1 (n1 + 1) → ItB t' g j2 m2 (n2 + 1) → IsPair g s.heap.objs.size u v → g.objs.size = s.heap.objs.size + 1 →
      (∀ c o, c ≠ zz → c ≠ to → c ≠ j1 → c ≠ j2 → s.heap.get? c = some o → g.get? c = some o) → Q (.ref s.heap.objs.size) { s with heap := g }) :
    wpAny (model P w) A (Builtin.«zip.__next__» ⟨[.ref zz], []⟩) (fun fin s' => ∃ v, fin = .done (.ret v) ∧ Q v s') E s := by
  show wpAny _ _ (field (.ref zz) 2 >>= _) _ _ _
  refine wpAny_bind (wpAny_field gz rfl (x := .bool false) rfl ?_)
  show wpAny _ _ (field (.ref zz) 3 >>= _) _ _ _
  refine wpAny_bind (wpAny_field gz rfl (x := .ref ti) rfl (wpAny_bind (wpAny_seqItems gi rfl ?_)))
  show wpAny _ _ (Builtin.SmallTypes.ownedTupleIsFree (.ref zz) >>= _) _ _ _
  unfold Builtin.SmallTypes.ownedTupleIsFree
  refine wpAny_bind (wpAny_bind (wpAny_field gz rfl (x := .none) rfl (wpAny_pure ?_)))
  simp only [if_true]
  refine wpAny_bind (wpAny_rule (wpAny_bind (wpAny_field gz rfl (x := .ref to) rfl (wpAny_bind (wpAny_setField_rec gz (by simp) fun g1 z1 k1 => ?_)))))
  replace z1 : IsZip g1 zz ti to .ellipsis := z1
  refine wpAny_bind ?_
  simp only [List.forIn_cons, List.forIn_nil, List.zipIdx_cons, List.zipIdx_nil]
  refine wpAny_bind (wpAny_bind (wpAny_onRaise ?_))
  show wpAny _ _ (Builtin.SmallTypes.nextOf (.ref j1) >>= _) _ _ _
  refine wpAny_bind (nxB_item (c1.ext k1.extBut D.i1z) (q1.ext k1.extBut D.l1z) hu fun g2 d1 k2 => wpAny_pure ?_)
  have go2 : IsPair g2 to a b := k2.extBut _ _ D.TOi1 (k1.extBut _ _ D.TOz go)
  refine wpAny_bind (wpAny_seqItems go2 rfl (wpAny_bind (wpAny_updateSeq_pair go2 fun g3 go3 k3 => ?_)))
  replace go3 : IsPair g3 to u b := go3
  refine wpAny_bind (wpAny_letGo (wpAny_pure (wpAny_bind (wpAny_bind (wpAny_onRaise ?_)))))
  show wpAny _ _ (Builtin.SmallTypes.nextOf (.ref j2) >>= _) _ _ _
  refine wpAny_bind (nxB_item (((c2.ext k1.extBut D.i2z).ext k2.extBut D.i12.symm).ext k3.extBut D.TOi2.symm) (((q2.ext k1.extBut D.l2z).ext k2.extBut D.l2i1).ext k3.extBut D.l2TO) hv fun g4 d2 k4 => wpAny_pure ?_)
  have go4 : IsPair g4 to u b := k4.extBut _ _ D.TOi2 go3
  refine wpAny_bind (wpAny_seqItems go4 rfl (wpAny_bind (wpAny_updateSeq_pair go4 fun g5 go5 k5 => ?_)))
  replace go5 : IsPair g5 to u v := go5
  refine wpAny_bind (wpAny_letGo (wpAny_pure (wpAny_pure (wpAny_bind (wpAny_seqItems go5 rfl (wpAny_bind (wpAny_newTuple ?_)))))))
  have sz : g5.objs.size = s.heap.objs.size := by rw [k5.1, k4.1, k3.1, k2.1, k1.1]
  have z5 : IsZip g5 zz ti to .ellipsis := k5.extBut _ _ D.TOz.symm (k4.extBut _ _ D.i2z.symm (k3.extBut _ _ D.TOz.symm (k2.extBut _ _ D.i1z.symm z1)))
  have kk : ∀ c o, c ≠ zz → c ≠ to → c ≠ j1 → c ≠ j2 → s.heap.get? c = some o → g5.get? c = some o := fun c o n1 n2 n3 n4 e =>
    k5.extBut _ _ n2 (k4.extBut _ _ n4 (k3.extBut _ _ n2 (k2.extBut _ _ n3 (k1.extBut _ _ n1 e))))
  have e1 : ItB t g5 j1 m1 (n1 + 1) := ((d1.ext k3.extBut D.TOi1.symm).ext k4.extBut D.i12).ext k5.extBut D.TOi1.symm
  have e2 : ItB t' g5 j2 m2 (n2 + 1) := d2.ext k5.extBut D.TOi2.symm
  have lz : zz < g5.objs.size := Heap.lt_size z5
  show wpAny _ _ (Builtin.SmallTypes.ownedTupleHandOut (.ref zz) (.ref g5.objs.size) >>= _) _ _ _
  unfold Builtin.SmallTypes.ownedTupleHandOut
  have z6 : IsZip (g5.push { cls := .type "tuple", data := .seq #[u, v] }) zz ti to .ellipsis := Heap.get?_push_of_some _ z5
  refine wpAny_bind (wpAny_bind (wpAny_setField_rec z6 (by simp) fun g7 z7 k7 => ?_))
  replace z7 : IsZip g7 zz ti to (rawInt g5.objs.size) := z7
  refine wpAny_setField_rec z7 (by simp) fun g8 z8 k8 => ?_
  replace z8 : IsZip g8 zz ti to (rawInt g5.objs.size) := z8
  have up8 : ∀ c o, c ≠ zz → g5.get? c = some o → g8.get? c = some o := fun c o n e => k8.extBut _ _ n (k7.extBut _ _ n (Heap.get?_push_of_some _ e))
  have new8 : IsPair g8 g5.objs.size u v := k8.extBut _ _ (Nat.ne_of_gt lz) (k7.extBut _ _ (Nat.ne_of_gt lz) (Heap.get?_push_size _ rfl))
  have sz8 : g8.objs.size = g5.objs.size + 1 := by rw [k8.1, k7.1, Heap.size_push]
  rw [sz] at z8 new8 sz8
  refine wpAny_pure ⟨_, rfl, ?_⟩
  show Q (.ref g5.objs.size) _
  rw [sz]
  exact hQ g8 z8 (up8 _ _ D.TOz go5) (e1.at fun o e => up8 _ o D.i1z e) (e2.at fun o e => up8 _ o D.i2z e) new8 sz8 fun c o n1 n2 n3 n4 e => up8 c o n1 (kk c o n1 n2 n3 n4 e)
theorem zipB_end {t t' : Bool} {zz ti to j1 j2 m1 m2 : Addr} {n1 n2 : Nat} {us vs : Array Value} {a b : Value} {Q : Fin → Shared → Prop} (hh : A.handled = none) (D : ZipApart zz ti to j1 j2 m1 m2)
    (gz : IsZip s.heap zz ti to .none) (gi : IsPair s.heap ti (.ref j1) (.ref j2)) (go : IsPair s.heap to a b)
    (c1 : ItB t s.heap j1 m1 n1) (c2 : ItB t' s.heap j2 m2 n2) (q1 : SqB t s.heap m1 us) (q2 : SqB t' s.heap m2 vs) (no : us[n1]? = none ∨ vs[n2]? = none)
    (hE : ∀ g e, (∀ c o, c ≠ zz → c ≠ to → c ≠ j1 → c ≠ j2 → s.heap.get? c = some o → g.get? c = some o) → (∃ o, g.get? e = some o ∧ o.cls = .type "StopIteration") → E (.ref e) { s with heap := g }) :
    wpAny (model P w) A (Builtin.«zip.__next__» ⟨[.ref zz], []⟩) Q E s := by
  show wpAny _ _ (field (.ref zz) 2 >>= _) _ _ _
  refine wpAny_bind (wpAny_field gz rfl (x := .bool false) rfl ?_)
  show wpAny _ _ (field (.ref zz) 3 >>= _) _ _ _
  refine wpAny_bind (wpAny_field gz rfl (x := .ref ti) rfl (wpAny_bind (wpAny_seqItems gi rfl ?_)))
  show wpAny _ _ (Builtin.SmallTypes.ownedTupleIsFree (.ref zz) >>= _) _ _ _
  unfold Builtin.SmallTypes.ownedTupleIsFree
  refine wpAny_bind (wpAny_bind (wpAny_field gz rfl (x := .none) rfl (wpAny_pure ?_)))
  simp only [if_true]
  refine wpAny_bind (wpAny_rule (wpAny_bind (wpAny_field gz rfl (x := .ref to) rfl (wpAny_bind (wpAny_setField_rec gz (by simp) fun g1 z1 k1 => ?_)))))
  replace z1 : IsZip g1 zz ti to .ellipsis := z1
  refine wpAny_bind ?_
  simp only [List.forIn_cons, List.forIn_nil, List.zipIdx_cons, List.zipIdx_nil]
  refine wpAny_bind (wpAny_bind (wpAny_onRaise ?_))
  show wpAny _ _ (Builtin.SmallTypes.nextOf (.ref j1) >>= _) _ _ _
  cases hu : us[n1]? with
  | none =>
    refine wpAny_bind (nxB_end hh (c1.ext k1.extBut D.i1z) (q1.ext k1.extBut D.l1z) hu fun g2 e k2 he => ?_)
    obtain ⟨oe, ge, ce⟩ := he
    have z2 : IsZip g2 zz ti to .ellipsis := k2 _ _ D.i1z.symm z1
    have ne : e ≠ zz := fun q => by subst q; rw [z2] at ge; cases ge; simp at ce
    exact wpAny_setField_rec z2 (by simp) fun g3 _ k3 => hE g3 e (fun c o n1 _ n3 _ q => k3.extBut _ _ n1 (k2 _ _ n3 (k1.extBut _ _ n1 q))) ⟨oe, k3.extBut _ _ ne ge, ce⟩
  | some u =>
    have hv : vs[n2]? = none := no.resolve_left fun q => by rw [hu] at q; cases q
    refine wpAny_bind (nxB_item (c1.ext k1.extBut D.i1z) (q1.ext k1.extBut D.l1z) hu fun g2 d1 k2 => wpAny_pure ?_)
    have go2 : IsPair g2 to a b := k2.extBut _ _ D.TOi1 (k1.extBut _ _ D.TOz go)
    refine wpAny_bind (wpAny_seqItems go2 rfl (wpAny_bind (wpAny_updateSeq_pair go2 fun g3 go3 k3 => ?_)))
    refine wpAny_bind (wpAny_letGo (wpAny_pure (wpAny_bind (wpAny_bind (wpAny_onRaise ?_)))))
    show wpAny _ _ (Builtin.SmallTypes.nextOf (.ref j2) >>= _) _ _ _
    refine wpAny_bind (nxB_end hh (((c2.ext k1.extBut D.i2z).ext k2.extBut D.i12.symm).ext k3.extBut D.TOi2.symm) (((q2.ext k1.extBut D.l2z).ext k2.extBut D.l2i1).ext k3.extBut D.l2TO) hv fun g4 e k4 he => ?_)
    obtain ⟨oe, ge, ce⟩ := he
    have z4 : IsZip g4 zz ti to .ellipsis := k4 _ _ D.i2z.symm (k3.extBut _ _ D.TOz.symm (k2.extBut _ _ D.i1z.symm z1))
    have ne : e ≠ zz := fun q => by subst q; rw [z4] at ge; cases ge; simp at ce
    exact wpAny_setField_rec z4 (by simp) fun g5 _ k5 => hE g5 e (fun c o n1 n2 n3 n4 q => k5.extBut _ _ n1 (k4 _ _ n4 (k3.extBut _ _ n2 (k2.extBut _ _ n3 (k1.extBut _ _ n1 q))))) ⟨oe, k5.extBut _ _ ne ge, ce⟩
def itO (t : Bool) (l : Addr) : Obj := { cls := .type (if t then "tuple_iterator" else "list_iterator"), data := .fields #[.ref l, .int 0 0] }
abbrev zB1 (t : Bool) (h : Heap) (l : Addr) : Heap := h.push (itO t l)
abbrev zB2 (t t' : Bool) (h : Heap) (l l' : Addr) : Heap := (zB1 t h l).push (itO t' l')
abbrev zB3 (t t' : Bool) (h : Heap) (l l' : Addr) : Heap := (zB2 t t' h l l').push { cls := .type "tuple", data := .seq #[.ref h.objs.size, .ref (zB1 t h l).objs.size] }
abbrev zB4 (t t' : Bool) (h : Heap) (l l' : Addr) : Heap := (zB3 t t' h l l').push { cls := .type "tuple", data := .seq #[.none, .none] }
abbrev zB5 (t t' : Bool) (h : Heap) (l l' : Addr) : Heap := (zB4 t t' h l l').push { cls := .type "zip", data := .fields #[.none, .bool false, .bool false, .ref (zB2 t t' h l l').objs.size, .ref (zB3 t t' h l l').objs.size] }
theorem meets_zipB (t t' : Bool) (l l' : Addr) (us vs : Array Value) :
    Meets (Builtin.«zip.__new__» ⟨[.type "zip", .ref l, .ref l'], []⟩) (fun _ R s => SqB t s.heap l us ∧ SqB t' s.heap l' vs ∧ R (.ok (.ret (.ref (zB4 t t' s.heap l l').objs.size))) { s with heap := zB5 t t' s.heap l l' }) :=
  .of_wp fun prog w A R s h => by
    obtain ⟨hp, g, d, tk, os⟩ := s
    obtain ⟨h1, h2, h⟩ := h
    have hsub := PySem.sub_zip
    cases t
    · have hL1 : Heap.IsList (Shared.heap ⟨hp, g, d, tk, os⟩) l us := h1
      cases t'
      · have hL2 : Heap.IsList (Shared.heap ⟨hp.push { cls := .type "list_iterator", data := .fields #[.ref l, .int 0 0] }, g, d, tk, os⟩) l' vs := Heap.IsList.push h2 _
        wp_walk using wpAny_pyIter_list hL1, wpAny_pyIter_list hL2
        exact ⟨_, rfl, h⟩
      · have hL2 : Heap.IsTuple (Shared.heap ⟨hp.push { cls := .type "list_iterator", data := .fields #[.ref l, .int 0 0] }, g, d, tk, os⟩) l' vs := Heap.IsTuple.push h2 _
        wp_walk using wpAny_pyIter_list hL1, wpAny_pyIter_tuple hL2
        exact ⟨_, rfl, h⟩
    · have hL1 : Heap.IsTuple (Shared.heap ⟨hp, g, d, tk, os⟩) l us := h1
      cases t'
      · have hL2 : Heap.IsList (Shared.heap ⟨hp.push { cls := .type "tuple_iterator", data := .fields #[.ref l, .int 0 0] }, g, d, tk, os⟩) l' vs := Heap.IsList.push h2 _
        wp_walk using wpAny_pyIter_tuple hL1, wpAny_pyIter_list hL2
        exact ⟨_, rfl, h⟩
      · have hL2 : Heap.IsTuple (Shared.heap ⟨hp.push { cls := .type "tuple_iterator", data := .fields #[.ref l, .int 0 0] }, g, d, tk, os⟩) l' vs := Heap.IsTuple.push h2 _
        wp_walk using wpAny_pyIter_tuple hL1, wpAny_pyIter_tuple hL2
        exact ⟨_, rfl, h⟩
theorem itO_new {t : Bool} {h : Heap} {c l : Addr} (e : h.get? c = some (itO t l)) : ItB t h c l 0 := by
  cases t
  · exact ⟨_, e, rfl, rfl⟩
  · exact ⟨_, e, rfl, rfl⟩
theorem itO_free (t : Bool) (l : Addr) : (itO t l).isFreed = false := rfl
theorem call_zipB {t t' : Bool} {l l' : Addr} {us vs : Array Value} {Q : Value → Shared → Prop} (h1 : SqB t s.heap l us) (h2 : SqB t' s.heap l' vs)
    (h : ∀ g, IsZip g (s.heap.objs.size + 4) (s.heap.objs.size + 2) (s.heap.objs.size + 3) .none → IsPair g (s.heap.objs.size + 2) (.ref s.heap.objs.size) (.ref (s.heap.objs.size + 1)) →
      IsPair g (s.heap.objs.size + 3) .none .none → ItB t g s.heap.objs.size l 0 → ItB t' g (s.heap.objs.size + 1) l' 0 →
      (∀ c o, s.heap.get? c = some o → g.get? c = some o) → Q (.ref (s.heap.objs.size + 4)) { s with heap := g }) :
    wpAny (model P w) A (call (.type "zip") [.ref l, .ref l']) Q E s := by
  refine callType_new F.called_zip (by decide) (F.typeCall_zip_2 _ _) (F.newCall_zip_2 _ _) (fun ob => F.args_object_init_3 ob _ _) F.entry_zip_new (meets_zipB t t' l l' us vs) ⟨h1, h2, ?_⟩
  have y1 : (zB1 t s.heap l).objs.size = s.heap.objs.size + 1 := Heap.size_push ..
  have y2 : (zB2 t t' s.heap l l').objs.size = s.heap.objs.size + 2 := by rw [Heap.size_push, y1]
  have y3 : (zB3 t t' s.heap l l').objs.size = s.heap.objs.size + 3 := by rw [Heap.size_push, y2]
  have y4 : (zB4 t t' s.heap l l').objs.size = s.heap.objs.size + 4 := by rw [Heap.size_push, y3]
  have p5 : (zB5 t t' s.heap l l').get? (zB4 t t' s.heap l l').objs.size = some _ := Heap.get?_push_size _ rfl
  have p4 : (zB5 t t' s.heap l l').get? (zB3 t t' s.heap l l').objs.size = some _ := Heap.get?_push_of_some _ (Heap.get?_push_size _ rfl)
  have p3 : (zB5 t t' s.heap l l').get? (zB2 t t' s.heap l l').objs.size = some _ := Heap.get?_push_of_some _ (Heap.get?_push_of_some _ (Heap.get?_push_size _ rfl))
  have p2 : (zB5 t t' s.heap l l').get? (zB1 t s.heap l).objs.size = some (itO t' l') := Heap.get?_push_of_some _ (Heap.get?_push_of_some _ (Heap.get?_push_of_some _ (Heap.get?_push_size _ (itO_free t' l'))))
  have p1 : (zB5 t t' s.heap l l').get? s.heap.objs.size = some (itO t l) := Heap.get?_push_of_some _ (Heap.get?_push_of_some _ (Heap.get?_push_of_some _ (Heap.get?_push_of_some _ (Heap.get?_push_size _ (itO_free t l)))))
  show _ ∧ _
  rw [y2, y3, y4] at p5
  rw [y1, y2] at p3
  rw [y3] at p4
  rw [y1] at p2
  rw [y4]
  exact ⟨⟨_, p5, rfl⟩, h _ p5 p3 p4 (itO_new p1) (itO_new p2) fun c o q => Heap.get?_push_of_some _ (Heap.get?_push_of_some _ (Heap.get?_push_of_some _ (Heap.get?_push_of_some _ (Heap.get?_push_of_some _ q))))⟩
end
/-- a list or a tuple of the abstract heap -/
def SqK (t : Bool) (K : PySem.W.Frag) (H : Hp) (a : Addr) (xs : List V) : Prop := match t with
  | true => SqT K H a xs
  | false => SqL K H a xs
section
variable {X : Cx} {pins : List (Addr × Obj)} {σ : L2.St} {H : Hp} {s : Shared}
theorem sqK_seq {t : Bool} {a : Addr} {xs : List V} (I : Inv X pins σ H s) (h : SqK t X.K H a xs) : ∃ us : List Value, Vals xs us ∧ SqB t s.heap a us.toArray := by
  cases t
  · obtain ⟨us, rv, p, _⟩ := I.list h
    exact ⟨us, rv, p.isList⟩
  · obtain ⟨us, rv, p, _⟩ := I.tuple h
    exact ⟨us, rv, p⟩
theorem sqK_inj {t : Bool} {a : Addr} {xs ys : List V} (I : Inv X pins σ H s) (h : SqK t X.K H a xs) (h' : SqK t X.K H a ys) : xs = ys := by
  cases t
  · exact I.list_inj h h'
  · exact I.tuple_inj h h'
end
def ItzB (t t' : Bool) (K : PySem.W.Frag) (a b : Addr) : It :=
  ⟨fun i H => ∃ (xs ys : List V) (x y : V), SqK t K H a xs ∧ SqK t' K H b ys ∧ xs[i]? = some x ∧ ys[i]? = some y,
    fun i H v H' => ∃ p x y, v = .ref p ∧ H p = none ∧ H' = upd H p (.tup [x, y]) ∧ (∀ xs, SqK t K H a xs → xs[i]? = some x) ∧ ∀ ys, SqK t' K H b ys → ys[i]? = some y,
    fun i H => ∃ xs ys : List V, SqK t K H a xs ∧ SqK t' K H b ys ∧ (xs.length ≤ i ∨ ys.length ≤ i)⟩
theorem turn_zipB {P : Program} {w : World} {K : PySem.W.Frag} {es : List Expr} {kk : Nat} {tp : Pos} {t t' : Bool} {a b zz ti to j1 j2 : Addr} (D : ZipApart zz ti to j1 j2 a b) :
    Turn P w K (.Tuple es kk tp) (ItzB t t' K a b) [zz, ti, to, j1, j2] zz (fun i h => IsZip h zz ti to .none ∧ IsPair h ti (.ref j1) (.ref j2) ∧ (∃ x y, IsPair h to x y) ∧ ItB t h j1 a i ∧ ItB t' h j2 b i) where
  mem := by simp
  obj := fun i h st c hc => by
    obtain ⟨gz, gi, ⟨x, y, go⟩, c1, c2⟩ := st
    have e' : c = zz ∨ c = ti ∨ c = to ∨ c = j1 ∨ c = j2 := by simpa using hc
    rcases e' with rfl | rfl | rfl | rfl | rfl
    · exact ⟨_, gz, fun v q => nomatch q⟩
    · exact ⟨_, gi, fun v q => nomatch q⟩
    · exact ⟨_, go, fun v q => nomatch q⟩
    · exact c1.obj
    · exact c2.obj
  keep := fun i h h' st k => by
    obtain ⟨gz, gi, ⟨x, y, go⟩, c1, c2⟩ := st
    exact ⟨k zz (by simp) _ gz, k ti (by simp) _ gi, ⟨x, y, k to (by simp) _ go⟩, c1.at fun o q => k j1 (by simp) o q, c2.at fun o q => k j2 (by simp) o q⟩
  item := by
    intro X eP ew eK hc i pins s σ H E I hf st hg
    subst eP ew eK
    obtain ⟨gz, gi, ⟨x0, y0, go⟩, c1, c2⟩ := st
    obtain ⟨xs, ys, x, y, hqx, hqy, hx, hy⟩ := hg
    obtain ⟨us, rv, p⟩ := sqK_seq I hqx
    obtain ⟨vs, rv2, p2⟩ := sqK_seq I hqy
    obtain ⟨u, hu, ru⟩ := rv.get hx
    obtain ⟨u2, hu2, ru2⟩ := rv2.get hy
    have lz : zz < s.heap.objs.size := Heap.lt_size gz
    have hT : s.TypeIs (.ref zz) "zip" := ⟨_, gz, rfl⟩
    unfold pyNext
    refine wpAny_bind (wpAny_attempt (wpAny_callSpecial?_slot (name := Str.ofString "__next__") hT F.slot_zip_next (wpAny_call_entry F.slot_zip_next hT F.entry_zip_next
      (zipB_item D gz gi go c1 c2 p p2 (u := u) (v := u2) (by simpa using hu) (by simpa using hu2) fun g z' to' c1' c2' hT' hsz hk => wpAny_pure ?_) (F.args_zip_next_1 _))))
    refine ⟨_, rfl, wpAny_letOwnedTupleGo_zip (s := { s with heap := g }) z' fun g2 z2 sb => ?_⟩
    have hT2 : g2.get? s.heap.objs.size = some { cls := .type "tuple", data := .seq #[u, u2] } := (sb.2 _ (Nat.ne_of_gt lz)).trans hT'
    have new : ObjOk X.prog X.w (upd H s.heap.objs.size (.tup [x, y])) g2 s.heap.objs.size (.tup [x, y]) := ⟨show 2 ≤ sizeLine by decide, [u, u2], .cons ru (.cons ru2 .nil), ⟨_, hT2, rfl, _, rfl⟩⟩
    have I1 : Inv X pins σ (upd H s.heap.objs.size (.tup [x, y])) { s with heap := g2 } := I.turnedNew (t' := s.toks) (ch := [zz, ti, to, j1, j2]) (fun c o hb q => by
      simp only [List.mem_cons, List.not_mem_nil, or_false, not_or] at hb
      exact (sb.2 c hb.1).trans (hk c o hb.1 hb.2.2.1 hb.2.2.2.1 hb.2.2.2.2 q)) hf (Nat.le_refl _) new
    refine ⟨.ref s.heap.objs.size, _, I1, rfl, ⟨_, x, y, rfl, I.hok.fresh (Nat.le_refl _), rfl, fun l hl => by rw [sqK_inj I hl hqx]; exact hx, fun l hl => by rw [sqK_inj I hl hqy]; exact hy⟩, ⟨z2, (sb.2 _ D.TIz).trans (hk _ _ D.TIz D.TITO D.TIi1 D.TIi2 gi), ⟨u, u2, (sb.2 _ D.TOz).trans to'⟩, c1'.at fun o q => (sb.2 _ D.i1z).trans q, c2'.at fun o q => (sb.2 _ D.i2z).trans q⟩, fun c hcm => ?_⟩
    have hlt : c < s.heap.objs.size := by
      have e' : c = zz ∨ c = ti ∨ c = to ∨ c = j1 ∨ c = j2 := by simpa using hcm
      rcases e' with rfl | rfl | rfl | rfl | rfl
      · exact lz
      · exact Heap.lt_size gi
      · exact Heap.lt_size go
      · exact c1.lt
      · exact c2.lt
    rw [upd_ne (Nat.ne_of_lt hlt)]
    exact (hf c hcm).1
  done := by
    intro X eP ew eK hc i pins s σ H E I hf st hg
    subst eP ew eK
    obtain ⟨gz, gi, ⟨x0, y0, go⟩, c1, c2⟩ := st
    obtain ⟨xs, ys, hqx, hqy, hend⟩ := hg
    obtain ⟨us, rv, p⟩ := sqK_seq I hqx
    obtain ⟨vs, rv2, p2⟩ := sqK_seq I hqy
    have l1 := rv.length
    have l2 := rv2.length
    have no : us.toArray[i]? = none ∨ vs.toArray[i]? = none := hend.imp (fun q => by simp; omega) fun q => by simp; omega
    have hT : s.TypeIs (.ref zz) "zip" := ⟨_, gz, rfl⟩
    unfold pyNext
    refine wpAny_bind (wpAny_attempt (wpAny_callSpecial?_slot (name := Str.ofString "__next__") hT F.slot_zip_next (wpAny_call_entry F.slot_zip_next hT F.entry_zip_next
      (zipB_end (I.ok.hd hc) D gz gi go c1 c2 p p2 no fun g e hk he => ?_) (F.args_zip_next_1 _))))
    obtain ⟨o, ho, hc⟩ := he
    refine wpAny_bind (wpAny_isInstance (T := "StopIteration") (b := true) ⟨o, ho, hc⟩ isSubtype_stop (wpAny_pure ⟨rfl, I.turnedL (t' := s.toks) (ch := [zz, ti, to, j1, j2]) (fun c o hb q => ?_) hf⟩))
    simp only [List.mem_cons, List.not_mem_nil, or_false, not_or] at hb
    exact hk c o hb.1 hb.2.2.1 hb.2.2.2.1 hb.2.2.2.2 q
  self := fun A i s Q E st h => wpAny_pyIter_zip st.1 h
def iZipB (K : PySem.W.Frag) (ta : TA) : TI := fun σ H R => ta σ H fun vs H1 => ∃ t t' a b xs ys, vs = [.ref a, .ref b] ∧ SqK t K H1 a xs ∧ SqK t' K H1 b ys ∧ R (ItzB t t' K a b) H1
theorem pi_zipB {X : Cx} {e e2 : Expr} {ta : TA} {p pos tp : Pos} {es : List Expr} {kk : Nat} (hg : Gl X "zip") (hm : X.mg "zip" = none) (ha : PA X [e, e2] ta)
    (hs : starEach [e, e2] X.env = (false, eval e X.env) :: starEach [e2] X.env) (hp : (backTo pos (starEach [e2] X.env)).any (·.1) = false) :
    PI X (.Tuple es kk tp) (.Call (.Name "zip" p) [e, e2] [] pos) (iZipB X.K ta) := by
  refine ⟨fun pins s σ H R I h => Call_ (ld_blt I hg hm PyProof.Rows.boot_zip (PyProof.Rows.callWith_type1 (thn (ha.run pos pins s σ H _ I h) fun us s1 ⟨vs, H1, I1, r1, q1⟩ => ?_) hs hp))⟩
  obtain ⟨t, t', a, b, xs, ys, ex, hqx, hqy, q⟩ := q1
  subst ex
  cases r1 with | cons r rr =>
  cases rr with | cons r' rr =>
    cases rr
    cases r
    cases r'
    obtain ⟨its, rv, p1⟩ := sqK_seq I1 hqx
    obtain ⟨its2, rv2, p2⟩ := sqK_seq I1 hqy
    refine call_zipB p1 p2 fun g gz gi go c1 c2 hk => wpAny_pyIter_zip gz ?_
    have I2 : Inv X pins σ H1 { s1 with heap := g } := I1.kept (t' := s1.toks) hk
    refine ⟨s1.heap.objs.size + 4, [s1.heap.objs.size + 4, s1.heap.objs.size + 2, s1.heap.objs.size + 3, s1.heap.objs.size, s1.heap.objs.size + 1], _, _, H1, rfl, I2, turn_zipB (t := t) (t' := t') (PySem.W.ktu_apart s1.heap.objs.size a b p1.lt p2.lt), ⟨gz, gi, ⟨_, _, go⟩, c1, c2⟩, fun c hcm => ?_, q⟩
    have hle : s1.heap.objs.size ≤ c := by
      simp only [List.mem_cons, List.not_mem_nil, or_false] at hcm
      rcases hcm with e | e | e | e | e <;> rw [e] <;> first | exact Nat.le_add_right _ _ | exact Nat.le_refl _
    exact I1.fpOk hle (I1.hok.fresh hle)
end Sg
/-! SgS: sorted(set(l)) of a list of ints. -/
namespace Sg
open PySem PySem.Spec PyProof.Rows L2
abbrev newS (w : World) : Obj := { cls := .type "set", dict := none, data := .set #[] 0 (.fresh 0 0 (!w.params.followText "set-order")) }
section
variable {P : Program} {w : World} {A : Around} {E : Value → Shared → Prop} {s : Shared}
/-- set(l), l a list of ints -/
theorem set_of_list {l : Addr} {its : Array Value} (ns : List Int) {Q : Value → Shared → Prop} (hh : A.handled = none) (hl : s.heap.IsList l its) (hi : IntsAre its.toList ns) (hb : ns.length + 1 < scanBound)
    (h : ∀ (g1 : Heap) (tk c : Nat), SetR w g1 s.heap.objs.size (fun j => decide (j ∈ ns)) c → c ≤ ns.length → (∀ b o, s.heap.get? b = some o → g1.get? b = some o) → Q (.ref s.heap.objs.size) { s with heap := g1, toks := tk }) :
    wpAny (model P w) A (call (.type "set") [.ref l]) Q E s := by
  have hsz : its.size = ns.length := by
    have q := IntsAre.length hi
    rw [Array.length_toList] at q
    exact q
  obtain ⟨c, tl, cm⟩ := F.called_set.mro
  have cd := F.called_set.made
  have cs := F.called_set.sub
  refine wpAny_call (codeAny_of_tree ?_)
  show wpAny _ _ (callAny (.type "set") _) _ _ _
  refine wpAny_pure ⟨Code.quiet_builtin _ (by decide +kernel), codeAny_builtin F.entry_type_call ?_⟩
  rw [Around.under_plain (weight_type_call_type "set" [.ref l] []) rfl]
  have cn := F.called_set.notType
  have cc := F.called_set.canCreate
  have ct := F.typeCall_set_1 (.ref l)
  repeat (any_goals (first | assumption | wp_step))
  refine codeAny_mono (code_set_led1 (.ref l) (E := E) (Q₁ := fun ob s1 => ob = .ref s.heap.objs.size ∧ s1 = { s with heap := s.heap.push (newS w) }) ⟨rfl, rfl⟩) fun r s1 hr => ?_
  cases r with
  | error e => exact hr
  | ok fl =>
    cases fl with
    | ret ob =>
      obtain ⟨rfl, rfl⟩ := hr
      have gS : (s.heap.push (newS w)).get? s.heap.objs.size = some (newS w) := Heap.get?_push_size _ rfl
      have tS : Shared.TypeIs { s with heap := s.heap.push (newS w) } (.ref s.heap.objs.size) "set" := ⟨_, gS, rfl⟩
      have il := F.called_set.init.lookup
      have ib := F.called_set.init.bind (.ref s.heap.objs.size)
      repeat (any_goals (first | assumption | wp_step))
      refine codeAny_mono (codeAny_call_builtin (R := wants (fun r s2 => r = .none ∧ ∃ g1 tk c, s2 = { s with heap := g1, toks := tk } ∧ SetR w g1 s.heap.objs.size (fun j => decide (j ∈ ns)) c ∧ c ≤ ns.length ∧ (∀ b o, s.heap.get? b = some o → g1.get? b = some o)) E)
        F.called_set.init.plain F.entry_set_init (check_set_init_1 tS ?_)) fun r2 s2 hr2 => ?_
      · obtain ⟨ol, e0, e1, nl, e2⟩ := hl
        obtain ⟨k0, k1, k2, k3⟩ := ol
        simp only at e1 e2
        subst e1
        subst e2
        have gl : (s.heap.push (newS w)).get? l = some { cls := .type "list", dict := k1, data := .seq its nl, slots := k3 } := Heap.get?_push_of_some _ e0
        have n1 := F.sub_list_set
        have n2 := F.sub_list_frozenset
        have n3 : (Value.type "list" == Value.type "dict") = false := by decide
        have l1 : (s.heap.push (newS w)).IsList l its := ⟨_, gl, rfl, nl, rfl⟩
        unfold Builtin.«set.__init__» noKeywords Builtin.Frozenset.updateFrom
        generalize hPI : pyIter = PI
        wp_walk
        subst hPI
        refine wpAny_pyIter_list l1 (wpAny_bind (wpAny_runValue ?_))
        have ll : l < s.heap.objs.size := Heap.lt_size e0
        have h3 : A.in1.in1.in1.handled = none := by simp [hh]
        have z1 : (s.heap.push (newS w)).objs.size = s.heap.objs.size + 1 := Heap.size_push ..
        have nI : l ≠ (s.heap.push (newS w)).objs.size := by
          rw [z1]
          exact Nat.ne_of_lt (Nat.lt_succ_of_lt ll)
        have nf : s.heap.objs.size ∉ [(s.heap.push (newS w)).objs.size, l] := by
          rw [z1]
          simp only [List.mem_cons, List.not_mem_nil, or_false, not_or]
          exact ⟨Nat.ne_of_lt (Nat.lt_succ_self _), Nat.ne_of_gt ll⟩
        have val : ∀ (i : Nat) (v : Value), its[i]? = some v → ∃ k t, ns[i]? = some k ∧ v = .int k t := fun i v hv => by
          have hlt : i < ns.length := by
            rw [← hsz]
            exact (Array.getElem?_eq_some_iff.mp hv).1
          obtain ⟨t, e⟩ := PyProof.Rows.IntsAre.int_at hi i v (by rw [Array.getElem?_toList]; exact hv)
          refine ⟨ns[i], t, List.getElem?_eq_getElem hlt, ?_⟩
          rw [e, List.getD_eq_getElem?_getD, List.getElem?_eq_getElem hlt] <;> rfl
        refine set_update_ints ((Walks.list h3 _ l nI its).toS) s.heap.objs.size nf ns hsz hb val (its.size - 0) 0 _ (by omega) (Nat.zero_le _) ⟨⟨_, Heap.get?_push_size _ rfl, rfl, rfl⟩, l1.push _⟩ ⟨0, Nat.le_refl 0, setR_new_at (Heap.get?_push_of_some _ gS)⟩ fun s3 c3 hm hc3 hS3 => ?_
        obtain ⟨g1, g2, d1, tk1, os1⟩ := s3
        have q1 : g2 = s.gens := hm.gens
        have q2 : d1 = s.drawn := hm.drawn
        have q3 : os1 = s.os := hm.os
        subst q1 q2 q3
        refine wpAny_pure (wpAny_pure ⟨rfl, g1, tk1, c3, rfl, hS3, hsz ▸ hc3, fun b o e => ?_⟩)
        have b0 : b < s.heap.objs.size := Heap.lt_size e
        exact hm.heap b o (by rw [z1]; simp only [List.mem_cons, List.not_mem_nil, or_false, not_or]; exact ⟨Nat.ne_of_lt b0, Nat.ne_of_lt (Nat.lt_succ_of_lt b0)⟩) (Heap.get?_push_of_some _ (Heap.get?_push_of_some _ e))
      · cases r2 with
        | error e => exact hr2
        | ok f2 =>
          cases f2 with
          | ret r =>
            obtain ⟨rfl, g1, tk, c3, rfl, hS3, hc3, hk3⟩ := hr2
            repeat (any_goals (first | assumption | wp_step))
            exact h _ _ _ hS3 hc3 hk3
          | next => exact False.elim hr2
          | brk => exact False.elim hr2
          | cont => exact False.elim hr2
    | next => exact False.elim hr
    | brk => exact False.elim hr
    | cont => exact False.elim hr
end
section
variable {X : Cx}
theorem cr_setL (hc : X.calm = true) : CallR X (.type "set") (fun vs H Q => ∃ (a : Addr) (ns : List Int), vs = [V.ref a] ∧ SqL X.K H a (ns.map V.int) ∧ ns.length + 1 < scanBound ∧ ∀ p c, H p = none → c ≤ ns.length → Q (.ref p) (upd H p (SetO X.w p (fun j => decide (j ∈ ns)) c))) := by
  intro pins s σ H vs us Q I r h
  obtain ⟨a, ns, rfl, hq, hb, q⟩ := h
  rw [Vals.ref1 r]
  obtain ⟨its, rv, pl, _⟩ := I.list hq
  refine set_of_list ns (I.ok.hd hc) pl.isList (by simpa using ints_of_vals rv) hb fun g1 tk c hS hcl hk => ?_
  have hn : H s.heap.objs.size = none := I.hok.fresh (Nat.le_refl _)
  exact ⟨.ref s.heap.objs.size, _, I.laid (t' := tk) (a := s.heap.objs.size) (o := SetO X.w s.heap.objs.size (fun j => decide (j ∈ ns)) c) (h' := g1) hk (Nat.le_refl _) (setO_new hS), rfl, q _ c hn hcl⟩
end
end Sg
/-! SgQ: a dict and a tuple are not equal. -/
namespace Sg
open PySem PySem.SeqAt
open AutoSeq1 (wpAny_loadPart')
open MeetsSeq
theorem dict_eq_declines_tuple (l b : Addr) (es : Array DictEntry) (items2 : Array Value) (n n2 : Nat) (dd dd2 : Option Addr) (sl sl2 : Array (Option Value)) :
    Meets (Builtin.«dict.__eq__» ⟨[.ref l, .ref b], []⟩) (fun _ R s => s.heap.get? l = some { cls := .type "dict", dict := dd, data := .dict es n, slots := sl } ∧ s.heap.get? b = some { cls := .type "tuple", dict := dd2, data := .seq items2 n2, slots := sl2 } ∧ R (.ok (.ret .notImplemented)) s) :=
  .of_wp fun prog w A R s h => by obtain ⟨hp, g, d, tk, os⟩ := s; obtain ⟨hl, hb, h⟩ := h; have f1 := F.sub_tuple_dict; wp_walk using wpAny_loadPart' hl, wpAny_loadPart' hb; exact ⟨_, rfl, h⟩
theorem tuple_eq_declines_dict (l b : Addr) (items : Array Value) (es : Array DictEntry) (n n2 : Nat) (dd dd2 : Option Addr) (sl sl2 : Array (Option Value)) :
    Meets (Builtin.«tuple.__eq__» ⟨[.ref l, .ref b], []⟩) (fun _ R s => s.heap.get? l = some { cls := .type "tuple", dict := dd, data := .seq items n, slots := sl } ∧ s.heap.get? b = some { cls := .type "dict", dict := dd2, data := .dict es n2, slots := sl2 } ∧ R (.ok (.ret .notImplemented)) s) :=
  .of_wp fun prog w A R s h => by obtain ⟨hp, g, d, tk, os⟩ := s; obtain ⟨hl, hb, h⟩ := h; have f1 := F.sub_dict_tuple; wp_walk using wpAny_loadPart' hl, wpAny_loadPart' hb; exact ⟨_, rfl, h⟩
theorem rc_dict_tuple {A : Around} {s : Shared} {l b : Addr} {o : Obj} {es : Array DictEntry} {n : Nat} {items2 : Array Value} (h1 : s.heap.get? l = some o) (h2 : o.cls = .type "dict") (h3 : o.data = .dict es n) (hb : s.heap.IsTuple b items2) (hu : A.units < cLine) : RcAt A s (.ref l) (.ref b) false := fun prog w E Q h => by
  obtain ⟨cls, dd, data, sl⟩ := o
  obtain ⟨⟨cls2, dd2, data2, sl2⟩, ho2, hc2, n2, hd2⟩ := id hb
  simp only at h2 h3 hc2 hd2
  subst h2 h3 hc2 hd2
  have hne : l ≠ b := fun e => by
    subst e
    rw [h1] at ho2
    exact absurd (congrArg Obj.cls (Option.some.inj ho2)) (by simp)
  exact (rc_eq_decline_or (k := false) ⟨_, h1, rfl⟩ ⟨_, ho2, rfl⟩ (by decide) F.sub_tuple_dict F.slot_dict_eq F.slot_tuple_eq_refl
    (fun _ hq => call_meets F.slot_dict_eq ⟨_, h1, rfl⟩ F.entry_dict_eq (F.args_dict_eq_2 _ _) (dict_eq_declines_tuple l b es items2 n n2 dd dd2 sl sl2) ⟨h1, ho2, hq⟩)
    (fun _ hq => call_meets F.slot_tuple_eq_refl ⟨_, ho2, rfl⟩ F.entry_tuple_eq (F.args_tuple_eq_2 _ _) (tuple_eq_declines_dict b l items2 es n2 n dd2 dd sl2 sl) ⟨ho2, h1, hq⟩)
    (fun _ hq => wpAny_isSame_ref_other hne h1 ho2 (by simp) hq) (.inr hu) h)
theorem dict_ne_declines_tuple (l b : Addr) (es : Array DictEntry) (items2 : Array Value) (n n2 : Nat) (dd dd2 : Option Addr) (sl sl2 : Array (Option Value)) :
    Meets (Builtin.«dict.__ne__» ⟨[.ref l, .ref b], []⟩) (fun _ R s => s.heap.get? l = some { cls := .type "dict", dict := dd, data := .dict es n, slots := sl } ∧ s.heap.get? b = some { cls := .type "tuple", dict := dd2, data := .seq items2 n2, slots := sl2 } ∧ R (.ok (.ret .notImplemented)) s) :=
  .of_wp fun prog w A R s h => by obtain ⟨hp, g, d, tk, os⟩ := s; obtain ⟨hl, hb, h⟩ := h; have f1 := F.sub_tuple_dict; wp_walk using wpAny_loadPart' hl, wpAny_loadPart' hb; exact ⟨_, rfl, h⟩
theorem tuple_ne_declines_dict (l b : Addr) (items : Array Value) (es : Array DictEntry) (n n2 : Nat) (dd dd2 : Option Addr) (sl sl2 : Array (Option Value)) :
    Meets (Builtin.«tuple.__ne__» ⟨[.ref l, .ref b], []⟩) (fun _ R s => s.heap.get? l = some { cls := .type "tuple", dict := dd, data := .seq items n, slots := sl } ∧ s.heap.get? b = some { cls := .type "dict", dict := dd2, data := .dict es n2, slots := sl2 } ∧ R (.ok (.ret .notImplemented)) s) :=
  .of_wp fun prog w A R s h => by obtain ⟨hp, g, d, tk, os⟩ := s; obtain ⟨hl, hb, h⟩ := h; have f1 := F.sub_dict_tuple; wp_walk using wpAny_loadPart' hl, wpAny_loadPart' hb; exact ⟨_, rfl, h⟩
theorem rc_ne_dict_tuple {A : Around} {s : Shared} {l b : Addr} {o : Obj} {es : Array DictEntry} {n : Nat} {items2 : Array Value} (h1 : s.heap.get? l = some o) (h2 : o.cls = .type "dict") (h3 : o.data = .dict es n) (hb : s.heap.IsTuple b items2) (hu : A.units < cLine) : RcNeAt A s (.ref l) (.ref b) true := fun prog w E Q h => by
  obtain ⟨cls, dd, data, sl⟩ := o
  obtain ⟨⟨cls2, dd2, data2, sl2⟩, ho2, hc2, n2, hd2⟩ := id hb
  simp only at h2 h3 hc2 hd2
  subst h2 h3 hc2 hd2
  have hne : l ≠ b := fun e => by
    subst e
    rw [h1] at ho2
    exact absurd (congrArg Obj.cls (Option.some.inj ho2)) (by simp)
  exact (rc_ne_decline_or (k := false) ⟨_, h1, rfl⟩ ⟨_, ho2, rfl⟩ (by decide) F.sub_tuple_dict F.slot_dict_ne F.slot_tuple_ne_refl
    (fun _ hq => call_meets F.slot_dict_ne ⟨_, h1, rfl⟩ F.entry_dict_ne (F.args_dict_ne_2 _ _) (dict_ne_declines_tuple l b es items2 n n2 dd dd2 sl sl2) ⟨h1, ho2, hq⟩)
    (fun _ hq => call_meets F.slot_tuple_ne_refl ⟨_, ho2, rfl⟩ F.entry_tuple_ne (F.args_tuple_ne_2 _ _) (tuple_ne_declines_dict b l items2 es n2 n dd2 dd sl2 sl) ⟨ho2, h1, hq⟩)
    (fun _ hq => wpAny_isSame_ref_other hne h1 ho2 (by simp) hq) (.inr hu) h)
end Sg
namespace Sg
open PySem L2
/-- a dict and a tuple -/
def rDT (k : Bool) (K : PySem.W.Frag) : R2 := fun x y H Q => ∃ a b kvs xs, x = .ref a ∧ y = .ref b ∧ H a = some (.dK kvs) ∧ SqT K H b xs ∧ Q (.bl k) H
theorem op_eqDT {X : Cx} (hu : X.A.units < cLine) : OpR X (compareOp .Eq) (rDT false X.K) := by
  intro pins s σ H x y v u Q I rx ry h
  obtain ⟨a, b, kvs, xs, rfl, rfl, ha, hb, q⟩ := h
  cases (show v = Value.ref a from rx)
  cases (show u = Value.ref b from ry)
  obtain ⟨_, _, _, _, o, es, n, e1, e2, e3, _⟩ := (show ObjOk X.prog X.w H s.heap a (.dK kvs) from I.hok a _ ha)
  obtain ⟨its, rv, ht, _⟩ := I.tuple hb
  exact rc_dict_tuple e1 e2.1 e3 ht hu _ _ _ _ ⟨.bl false, H, I, rfl, q⟩
theorem op_neDT {X : Cx} (hu : X.A.units < cLine) : OpR X (compareOp .NotEq) (rDT true X.K) := by
  intro pins s σ H x y v u Q I rx ry h
  obtain ⟨a, b, kvs, xs, rfl, rfl, ha, hb, q⟩ := h
  cases (show v = Value.ref a from rx)
  cases (show u = Value.ref b from ry)
  obtain ⟨_, _, _, _, o, es, n, e1, e2, e3, _⟩ := (show ObjOk X.prog X.w H s.heap a (.dK kvs) from I.hok a _ ha)
  obtain ⟨its, rv, ht, _⟩ := I.tuple hb
  exact rc_ne_dict_tuple e1 e2.1 e3 ht hu _ _ _ _ ⟨.bl true, H, I, rfl, q⟩
end Sg
/-! SgE0: an exception of an own class directly over a built-in one, whose __init__ calls the built-in one's and stores one attribute. -/
namespace Sg
open PySem PySem.Spec PyProof.Rows L2
/-- a built-in class of exceptions -/
structure BsOk (B newId initId : String) (tl : List Value) : Prop where
  F : ExcBaseFacts B newId initId tl
  pass : ∀ self : Value, refuseLoop self "__setattr__" tl = pure ()
  obj : tl.contains (.type "object") = true
  boot : bootBuiltins (Str.ofString B) = some (.type B)
  typ : typeOf (.type B) = pure (.type "type")
  stub : Manifest.isStub B = false
  hand : PySem.W.handedIn (.builtin initId) = true
  nn : Str.ofString B ≠ "__name__"
  nd : (Str.ofString B == ("__debug__" : Str)) = false
theorem bs_index : BsOk "IndexError" "IndexError.__new__" "IndexError.__init__" [.type "IndexError", .type "LookupError", .type "Exception", .type "BaseException", .type "object"] :=
  ⟨F.excBase_IndexError, F.store_IndexError.passes, by decide +kernel, by kernel_rfl, by kernel_rfl, by decide +kernel, by decide +kernel, by decide +kernel, by decide +kernel⟩
theorem bs_lookup : BsOk "LookupError" "LookupError.__new__" "LookupError.__init__" [.type "LookupError", .type "Exception", .type "BaseException", .type "object"] :=
  ⟨F.excBase_LookupError, F.store_LookupError.passes, by decide +kernel, by kernel_rfl, by kernel_rfl, by decide +kernel, by decide +kernel, by decide +kernel, by decide +kernel⟩
theorem bs_overflow : BsOk "OverflowError" "OverflowError.__new__" "OverflowError.__init__" [.type "OverflowError", .type "ArithmeticError", .type "Exception", .type "BaseException", .type "object"] :=
  ⟨F.excBase_OverflowError, F.store_OverflowError.passes, by decide +kernel, by kernel_rfl, by kernel_rfl, by decide +kernel, by decide +kernel, by decide +kernel, by decide +kernel⟩
theorem bs_arith : BsOk "ArithmeticError" "ArithmeticError.__new__" "ArithmeticError.__init__" [.type "ArithmeticError", .type "Exception", .type "BaseException", .type "object"] :=
  ⟨F.excBase_ArithmeticError, F.store_ArithmeticError.passes, by decide +kernel, by kernel_rfl, by kernel_rfl, by decide +kernel, by decide +kernel, by decide +kernel, by decide +kernel⟩
/-- what the written part says of the class -/
structure OxC (K : PySem.W.Frag) (C : Addr) (nI : String) (tl : List Value) : Prop where
  cls : ∃ nm q N bs sn sub ab col dd k0 k1 k2 k3 k5, K.lookup C = some (excClassObj nm q C N bs tl true sn sub ab col dd k0 k1 k2 k3 k5 nI)
  sa : PySem.W.findIn K (.ref C) "__setattr__" = some (some (.builtin "object.__setattr__"))
  ex : PySem.W.subIn K (.ref C) (.type "BaseException") = some true
  ty : PySem.W.typeIn K (.ref C) = some (.type "type")
  kp : PySem.W.keepIn K (.ref C) = true
/-- what the class's own __init__ promises -/
def spIni (C : Addr) (f : Str) : Sp := fun vs H Q _ => ∃ a v, vs = [.ref a, v] ∧ H a = some (exo a C none) ∧ ∀ dx, H dx = none → dx ≠ a → Q .non (upd (upd H dx (exd dx [(f, v)])) a (exo a C (some dx)))
end Sg
/-! Sg2: how data lies in the abstract heap; calls; what it means that code does what the evaluator says. -/
namespace Sg
open PySem L2

/-- the written part; own classes (address, attributes in order); exceptions (class, attributes) -/
structure Bk where
  K : PySem.W.Frag
  cls : List (Addr × List Str)
  exc : List (Value × List Str)
  /-- tables of code objects, each with its name -/
  tabs : List (Addr × Str)

mutual
def Rep (B : Bk) (F : Hp) (m : List Addr) : D → V → Prop
  | .non, v => v = .non
  | .bl b, v => v = .bl b
  | .int i, v => v = .int i
  | .str x, v => v = .str x
  | .tup xs, v => ∃ a vs, v = .ref a ∧ SqT B.K F a vs ∧ RepL B F m xs vs
  | .lst xs, v => ∃ a vs, v = .ref a ∧ F a = some (.lst vs) ∧ RepL B F m xs vs
  | .rol xs, v => ∃ a vs, v = .ref a ∧ SqL B.K F a vs ∧ RepL B F m xs vs
  | .dic ks xs, v => ∃ a vs, v = .ref a ∧ F a = some (.dK (ks.zip vs)) ∧ ks.length = vs.length ∧ RepL B F m xs vs
  | .ins c xs, v => ∃ a C dx ns vs, v = .ref a ∧ B.cls[c]? = some (C, ns) ∧ ns.length = vs.length ∧ F a = some (.ins C dx (ns.zip vs)) ∧ RepL B F m xs vs
  | .cls c, v => ∃ C ns, B.cls[c]? = some (C, ns) ∧ v = .ref C
  | .ref k, v => ∃ a, m[k]? = some a ∧ v = .ref a
def RepL (B : Bk) (F : Hp) (m : List Addr) : List D → List V → Prop
  | [], vs => vs = []
  | d :: r, vs => ∃ v us, vs = v :: us ∧ Rep B F m d v ∧ RepL B F m r us
end

structure Grow (F : Hp) (m : List Addr) (F' : Hp) (m' : List Addr) : Prop where
  sub : Same F F'
  pre : ∀ (k : Nat) (a : Addr), m[k]? = some a → m'[k]? = some a
theorem Grow.refl (F : Hp) (m : List Addr) : Grow F m F m := ⟨Same.refl F, fun _ _ h => h⟩
theorem Grow.trans {F F1 F2 : Hp} {m m1 m2 : List Addr} (a : Grow F m F1 m1) (b : Grow F1 m1 F2 m2) : Grow F m F2 m2 :=
  ⟨a.sub.trans b.sub, fun k x h => b.pre k x (a.pre k x h)⟩
theorem seqT_mono {K : PySem.W.Frag} {F F' : Hp} (e : Same F F') {a : Addr} {xs : List V} (h : SqT K F a xs) : SqT K F' a xs := by
  rcases h with (h | ⟨o, h⟩) | h
  · exact .inl (.inl (e _ _ h))
  · exact .inl (.inr ⟨o, e _ _ h⟩)
  · exact .inr h

mutual
theorem Rep.mono {B : Bk} {F F' : Hp} {m m' : List Addr} (g : Grow F m F' m') : ∀ (d : D) (v : V), Rep B F m d v → Rep B F' m' d v
  | .non, _, h => h
  | .bl _, _, h => h
  | .int _, _, h => h
  | .str _, _, h => h
  | .tup xs, _, h => by
    obtain ⟨a, vs, e, s, r⟩ := h
    exact ⟨a, vs, e, seqT_mono g.sub s, RepL.mono g xs vs r⟩
  | .lst xs, _, h => by
    obtain ⟨a, vs, e, s, r⟩ := h
    exact ⟨a, vs, e, g.sub _ _ s, RepL.mono g xs vs r⟩
  | .rol xs, _, h => by
    obtain ⟨a, vs, e, s, r⟩ := h
    exact ⟨a, vs, e, g.sub.seq s, RepL.mono g xs vs r⟩
  | .dic ks xs, _, h => by
    obtain ⟨a, vs, e, s, l, r⟩ := h
    exact ⟨a, vs, e, g.sub _ _ s, l, RepL.mono g xs vs r⟩
  | .ins c xs, _, h => by
    obtain ⟨a, C, dx, ns, vs, e, hc, l, s, r⟩ := h
    exact ⟨a, C, dx, ns, vs, e, hc, l, g.sub _ _ s, RepL.mono g xs vs r⟩
  | .cls _, _, h => h
  | .ref k, _, h => by
    obtain ⟨a, e, r⟩ := h
    exact ⟨a, g.pre _ _ e, r⟩
theorem RepL.mono {B : Bk} {F F' : Hp} {m m' : List Addr} (g : Grow F m F' m') : ∀ (ds : List D) (vs : List V), RepL B F m ds vs → RepL B F' m' ds vs
  | [], _, h => h
  | d :: r, _, h => by
    obtain ⟨v, us, e, h1, h2⟩ := h
    exact ⟨v, us, e, Rep.mono g d v h1, RepL.mono g r us h2⟩
end

mutual
/-- data that names no cell stands over any cells -/
theorem Rep.any {B : Bk} {F : Hp} {m m' : List Addr} : ∀ (d : D) (v : V), d.nr = true → Rep B F m d v → Rep B F m' d v
  | .non, _, _, h => h
  | .bl _, _, _, h => h
  | .int _, _, _, h => h
  | .str _, _, _, h => h
  | .tup xs, _, c, q => by
    obtain ⟨a, vs, e, s, r⟩ := q
    exact ⟨a, vs, e, s, RepL.any xs vs c r⟩
  | .lst xs, _, c, q => by
    obtain ⟨a, vs, e, s, r⟩ := q
    exact ⟨a, vs, e, s, RepL.any xs vs c r⟩
  | .rol xs, _, c, q => by
    obtain ⟨a, vs, e, s, r⟩ := q
    exact ⟨a, vs, e, s, RepL.any xs vs c r⟩
  | .dic ks xs, _, c, q => by
    obtain ⟨a, vs, e, s, l, r⟩ := q
    exact ⟨a, vs, e, s, l, RepL.any xs vs c r⟩
  | .ins _ xs, _, c, q => by
    obtain ⟨a, C, dx, ns, vs, e, hc, l, s, r⟩ := q
    exact ⟨a, C, dx, ns, vs, e, hc, l, s, RepL.any xs vs c r⟩
  | .cls _, _, _, q => q
  | .ref k, _, c, q => by cases c
theorem RepL.any {B : Bk} {F : Hp} {m m' : List Addr} : ∀ (ds : List D) (vs : List V), D.nrL ds = true → RepL B F m ds vs → RepL B F m' ds vs
  | [], _, _, q => q
  | d :: r, _, c, q => by
    obtain ⟨v, us, e, h1, h2⟩ := q
    have c' : (D.nr d && D.nrL r) = true := c
    rw [Bool.and_eq_true] at c'
    exact ⟨v, us, e, Rep.any d v c'.1 h1, RepL.any r us c'.2 h2⟩
end
theorem D.nrL_get : ∀ {ds : List D} {i : Nat} {d : D}, D.nrL ds = true → ds[i]? = some d → d.nr = true
  | [], _, _, _, e => by simp at e
  | x :: r, 0, d, c, e => by
    have c' : (D.nr x && D.nrL r) = true := c
    rw [Bool.and_eq_true] at c'
    simp at e
    subst e
    exact c'.1
  | x :: r, i + 1, d, c, e => by
    have c' : (D.nr x && D.nrL r) = true := c
    rw [Bool.and_eq_true] at c'
    exact D.nrL_get (i := i) c'.2 (by simpa using e)
theorem D.nrL_set {d : D} (hd : d.nr = true) : ∀ {ds : List D} (i : Nat), D.nrL ds = true → D.nrL (ds.set i d) = true
  | [], _, c => c
  | x :: r, 0, c => by
    have c' : (D.nr x && D.nrL r) = true := c
    rw [Bool.and_eq_true] at c'
    show (D.nr d && D.nrL r) = true
    rw [hd, c'.2]
    rfl
  | x :: r, i + 1, c => by
    have c' : (D.nr x && D.nrL r) = true := c
    rw [Bool.and_eq_true] at c'
    show (D.nr x && D.nrL (r.set i d)) = true
    rw [c'.1, D.nrL_set hd i c'.2]
    rfl
def Cell.nr : Cell → Bool
  | .own xs => D.nrL xs
  | .shr xs => D.nrL xs
  | .frz d => d.nr
  | .dct _ xs => D.nrL xs
  | .obj _ fs => D.nrL fs

theorem RepL.length {B : Bk} {F : Hp} {m : List Addr} : ∀ {ds : List D} {vs : List V}, RepL B F m ds vs → ds.length = vs.length
  | [], _, h => by
    have h : _ = [] := h
    rw [h]
    rfl
  | d :: r, _, h => by
    obtain ⟨v, us, rfl, _, h2⟩ := h
    rw [List.length_cons, List.length_cons, RepL.length h2]
theorem RepL.get {B : Bk} {F : Hp} {m : List Addr} : ∀ {ds : List D} {vs : List V}, RepL B F m ds vs → ∀ (i : Nat) (d : D), ds[i]? = some d → ∃ v, vs[i]? = some v ∧ Rep B F m d v
  | [], _, _, _, _, e => by simp at e
  | d :: r, _, h, 0, x, e => by
    obtain ⟨v, us, rfl, h1, _⟩ := h
    simp at e
    subst e
    exact ⟨v, rfl, h1⟩
  | d :: r, _, h, i + 1, x, e => by
    obtain ⟨v, us, rfl, _, h2⟩ := h
    obtain ⟨w, q1, q2⟩ := RepL.get h2 i x (by simpa using e)
    exact ⟨w, by simpa using q1, q2⟩
theorem RepL.get' {B : Bk} {F : Hp} {m : List Addr} {ds : List D} {vs : List V} (h : RepL B F m ds vs) (i : Nat) (v : V) (e : vs[i]? = some v) : ∃ d, ds[i]? = some d ∧ Rep B F m d v := by
  have hl := h.length
  have hi : i < vs.length := (List.getElem?_eq_some_iff.mp e).1
  have hd : i < ds.length := by omega
  obtain ⟨w, q1, q2⟩ := h.get i ds[i] (List.getElem?_eq_getElem hd)
  rw [e] at q1
  cases q1
  exact ⟨ds[i], List.getElem?_eq_getElem hd, q2⟩
theorem RepL.append {B : Bk} {F : Hp} {m : List Addr} : ∀ {ds es : List D} {vs us : List V}, RepL B F m ds vs → RepL B F m es us → RepL B F m (ds ++ es) (vs ++ us)
  | [], _, _, _, h, q => by
    have h : _ = [] := h
    subst h
    exact q
  | d :: r, _, _, _, h, q => by
    obtain ⟨v, ws, rfl, h1, h2⟩ := h
    exact ⟨v, ws ++ _, rfl, h1, RepL.append h2 q⟩
theorem RepL.one {B : Bk} {F : Hp} {m : List Addr} {d : D} {v : V} (h : Rep B F m d v) : RepL B F m [d] [v] := ⟨v, [], rfl, h, rfl⟩
theorem RepL.set {B : Bk} {F : Hp} {m : List Addr} {d : D} {v : V} (h : Rep B F m d v) : ∀ {ds : List D} {vs : List V} (i : Nat), RepL B F m ds vs → RepL B F m (ds.set i d) (vs.set i v)
  | [], _, _, q => by
    have q : _ = [] := q
    subst q
    exact rfl
  | x :: r, _, 0, q => by
    obtain ⟨w, us, rfl, _, h2⟩ := q
    exact ⟨v, us, rfl, h, h2⟩
  | x :: r, _, i + 1, q => by
    obtain ⟨w, us, rfl, h1, h2⟩ := q
    exact ⟨w, us.set i v, rfl, h1, RepL.set h i h2⟩
theorem RepL.of_get {B : Bk} {F : Hp} {m : List Addr} : ∀ {ds : List D} {vs : List V}, ds.length = vs.length → (∀ (i : Nat) (d : D) (v : V), ds[i]? = some d → vs[i]? = some v → Rep B F m d v) → RepL B F m ds vs
  | [], [], _, _ => rfl
  | [], _ :: _, h, _ => by simp at h
  | _ :: _, [], h, _ => by simp at h
  | d :: r, v :: us, h, q => ⟨v, us, rfl, q 0 d v rfl rfl, RepL.of_get (by simpa using h) fun i x y h1 h2 => q (i + 1) x y (by simpa using h1) (by simpa using h2)⟩

/-! ### the store -/
/-- a cell that may still be changed -/
def LiveOk (B : Bk) (F : Hp) (m : List Addr) : Cell → HO → Prop
  | .own xs, o => ∃ vs, o = .lst vs ∧ RepL B F m xs vs
  | .shr xs, o => ∃ vs, o = .lst vs ∧ RepL B F m xs vs
  | .dct ks xs, o => ∃ vs, o = .dK (ks.zip vs) ∧ ks.length = vs.length ∧ RepL B F m xs vs
  | .obj c fs, o => ∃ C dx ns vs, o = .ins C dx (ns.zip vs) ∧ B.cls[c]? = some (C, ns) ∧ fs.length ≤ ns.length ∧ RepL B F m fs vs
  | .frz _, _ => False
def CellOk (B : Bk) (F : Hp) (m : List Addr) (H : Hp) (a : Addr) (c : Cell) : Prop :=
  (∃ d, c = .frz d ∧ Rep B F m d (.ref a) ∧ ∃ o, F a = some o) ∨ (F a = none ∧ ∃ o, H a = some o ∧ LiveOk B F m c o)
theorem LiveOk.mono {B : Bk} {F F' : Hp} {m m' : List Addr} (g : Grow F m F' m') {c : Cell} {o : HO} (h : LiveOk B F m c o) : LiveOk B F' m' c o := by
  cases c with
  | own xs =>
    obtain ⟨vs, e, r⟩ := h
    exact ⟨vs, e, RepL.mono g _ _ r⟩
  | shr xs =>
    obtain ⟨vs, e, r⟩ := h
    exact ⟨vs, e, RepL.mono g _ _ r⟩
  | dct ks xs =>
    obtain ⟨vs, e, l, r⟩ := h
    exact ⟨vs, e, l, RepL.mono g _ _ r⟩
  | obj c fs =>
    obtain ⟨C, dx, ns, vs, e, b, l, r⟩ := h
    exact ⟨C, dx, ns, vs, e, b, l, RepL.mono g _ _ r⟩
  | frz d => exact h
theorem LiveOk.any {B : Bk} {F : Hp} {m m' : List Addr} {c : Cell} {o : HO} (hn : c.nr = true) (h : LiveOk B F m c o) : LiveOk B F m' c o := by
  cases c with
  | own xs =>
    obtain ⟨vs, e, r⟩ := h
    exact ⟨vs, e, RepL.any _ _ hn r⟩
  | shr xs =>
    obtain ⟨vs, e, r⟩ := h
    exact ⟨vs, e, RepL.any _ _ hn r⟩
  | dct ks xs =>
    obtain ⟨vs, e, l, r⟩ := h
    exact ⟨vs, e, l, RepL.any _ _ hn r⟩
  | obj c fs =>
    obtain ⟨C, dx, ns, vs, e, b, l, r⟩ := h
    exact ⟨C, dx, ns, vs, e, b, l, RepL.any _ _ hn r⟩
  | frz d => exact h
/-- no table, no code object -/
def isPl : HO → Bool
  | .tbl _ => false
  | .ext _ => false
  | _ => true
theorem LiveOk.pl {B : Bk} {F : Hp} {m : List Addr} {c : Cell} {o : HO} (h : LiveOk B F m c o) : isPl o = true := by
  cases c with
  | own xs =>
    obtain ⟨vs, rfl, _⟩ := h
    rfl
  | shr xs =>
    obtain ⟨vs, rfl, _⟩ := h
    rfl
  | dct ks xs =>
    obtain ⟨vs, rfl, _⟩ := h
    rfl
  | obj c fs =>
    obtain ⟨C, dx, ns, vs, rfl, _⟩ := h
    rfl
  | frz d => exact h.elim
theorem tabs_upd {T : List (Addr × Str)} {H : Hp} {a : Addr} {o o' : HO} (t : LamX.Tabs T H) (e : H a = some o) (n : isPl o = true) : LamX.Tabs T (upd H a o') := by
  intro p hp
  obtain ⟨ps, h1, h2, h3⟩ := t p hp
  have n1 : p.1 ≠ a := fun z => by
    rw [z, e] at h1
    cases h1
    cases n
  refine ⟨ps, by rw [upd_ne n1]; exact h1, h2, fun pos cv hc => ?_⟩
  obtain ⟨c, e1, e2⟩ := h3 pos cv hc
  have n2 : c ≠ a := fun z => by
    rw [z, e] at e2
    cases e2
    cases n
  exact ⟨c, e1, by rw [upd_ne n2]; exact e2⟩
theorem tabs_new {T : List (Addr × Str)} {H : Hp} {a : Addr} {o' : HO} (t : LamX.Tabs T H) (e : H a = none) : LamX.Tabs T (upd H a o') := t.ext fun b o q => by
  rw [upd_ne (ne_of_none q e)]
  exact q
/-- R: things that stand by themselves meanwhile -/
structure SOk (B : Bk) (R : Hp) (F : Hp) (m : List Addr) (μ : Store) (H : Hp) : Prop where
  sub : Same F H
  len : m.length = μ.length
  cell : ∀ (k : Nat) (c : Cell), μ[k]? = some c → ∃ a, m[k]? = some a ∧ CellOk B F m H a c
  nd : m.Nodup
  nr : ∀ (k : Nat) (c : Cell), μ[k]? = some c → c.nr = true
  fr : Same R H
  ap : ∀ a o, R a = some o → F a = none ∧ a ∉ m
  tb : LamX.Tabs B.tabs H
  pF : ∀ b o, F b = some o → isPl o = true
  pR : ∀ b o, R b = some o → isPl o = true
theorem nodup_at {m : List Addr} (h : m.Nodup) : ∀ {j k : Nat} {a : Addr}, m[j]? = some a → m[k]? = some a → j = k := by
  intro j k a h1 h2
  obtain ⟨l1, e1⟩ := List.getElem?_eq_some_iff.mp h1
  obtain ⟨l2, e2⟩ := List.getElem?_eq_some_iff.mp h2
  have hp := List.pairwise_iff_getElem.mp h
  rcases Nat.lt_trichotomy j k with q | q | q
  · exact absurd (e1.trans e2.symm) (hp j k l1 l2 q)
  · exact q
  · exact absurd (e2.trans e1.symm) (hp k j l2 l1 q)
section
variable {B : Bk} {R F F' : Hp} {m m' : List Addr} {μ μ' : Store} {H H' : Hp}
theorem CellOk.there {a : Addr} {c : Cell} (s : Same F H) (h : CellOk B F m H a c) : ∃ o, H a = some o := by
  rcases h with ⟨_, _, _, o, e⟩ | ⟨_, o, e, _⟩
  · exact ⟨o, s _ _ e⟩
  · exact ⟨o, e⟩
/-- the same cell over more data, where the heap is the same at it -/
theorem CellOk.move {a : Addr} {c : Cell} (g : Grow F m F' m') (hH : ∀ o, H a = some o → H' a = some o) (hF : F a = none → F' a = none) (h : CellOk B F m H a c) : CellOk B F' m' H' a c := by
  rcases h with ⟨d, e, r, o, f⟩ | ⟨f, o, e, l⟩
  · exact .inl ⟨d, e, Rep.mono g _ _ r, o, g.sub _ _ f⟩
  · exact .inr ⟨hF f, o, hH o e, l.mono g⟩
theorem SOk.there (so : SOk B R F m μ H) {k : Nat} {a : Addr} (e : m[k]? = some a) : ∃ o, H a = some o := by
  have hk : k < μ.length := by
    have := (List.getElem?_eq_some_iff.mp e).1
    rw [so.len] at this
    exact this
  obtain ⟨b, e', h⟩ := so.cell k _ (List.getElem?_eq_getElem hk)
  rw [e] at e'
  cases e'
  exact h.there so.sub
theorem SOk.fresh (so : SOk B R F m μ H) {p : Addr} (hp : H p = none) : F p = none ∧ p ∉ m := by
  refine ⟨so.sub.free hp, fun hm => ?_⟩
  obtain ⟨k, hk, e⟩ := List.mem_iff_getElem.mp hm
  obtain ⟨o, q⟩ := so.there (k := k) (a := p) (List.getElem?_eq_some_iff.mpr ⟨hk, e⟩)
  rw [hp] at q
  cases q
theorem same_new {p : Addr} {o : HO} (h : F p = none) : Same F (upd F p o) := fun b x e => by
  rw [upd_ne (ne_of_none e h)]
  exact e
theorem Grow.new {p : Addr} {o : HO} (h : F p = none) : Grow F m (upd F p o) m := ⟨same_new h, fun _ _ e => e⟩
theorem at_ne {p : Addr} {k : Nat} {a : Addr} (e : m[k]? = some a) (hp : p ∉ m) : a ≠ p := fun q => by
  subst q
  exact hp (List.mem_iff_getElem?.mpr ⟨k, e⟩)
theorem pl_upd {G : Hp} {p : Addr} {o : HO} (h : ∀ b x, G b = some x → isPl x = true) (ho : isPl o = true) {b : Addr} {x : HO} (e : upd G p o b = some x) : isPl x = true := by
  by_cases hb : b = p
  · subst hb
    rw [upd_same] at e
    cases e
    exact ho
  · rw [upd_ne hb] at e
    exact h b x e
/-- a new thing, at once data -/
theorem SOk.new (so : SOk B R F m μ H) {p : Addr} {o : HO} (hp : H p = none) (ho : isPl o = true := by rfl) : Grow F m (upd F p o) m ∧ SOk B R (upd F p o) m μ (upd H p o) := by
  obtain ⟨f1, f2⟩ := so.fresh hp
  have g : Grow F m (upd F p o) m := Grow.new f1
  refine ⟨g, ⟨fun b x e => ?_, so.len, fun k c hk => ?_, so.nd, so.nr, fun b x e => ?_, fun b x e => ?_, tabs_new so.tb hp, fun b x e => pl_upd so.pF ho e, so.pR⟩⟩
  · by_cases hb : b = p
    · subst hb
      rw [upd_same] at e ⊢
      exact e
    · rw [upd_ne hb] at e ⊢
      exact so.sub b x e
  · obtain ⟨a, ea, h⟩ := so.cell k c hk
    have na := at_ne ea f2
    exact ⟨a, ea, h.move g (fun o e => by rw [upd_ne na]; exact e) fun e => by rw [upd_ne na]; exact e⟩
  · have nb : b ≠ p := ne_of_none (so.fr b x e) hp
    rw [upd_ne nb]
    exact so.fr b x e
  · have nb : b ≠ p := ne_of_none (so.fr b x e) hp
    obtain ⟨q1, q2⟩ := so.ap b x e
    exact ⟨by rw [upd_ne nb]; exact q1, q2⟩
/-- a new thing that nobody looks at -/
theorem SOk.leak (so : SOk B R F m μ H) {p : Addr} {o : HO} (hp : H p = none) : SOk B R F m μ (upd H p o) := by
  obtain ⟨f1, f2⟩ := so.fresh hp
  refine ⟨fun b x e => ?_, so.len, fun k c hk => ?_, so.nd, so.nr, fun b x e => ?_, so.ap, tabs_new so.tb hp, so.pF, so.pR⟩
  · rw [upd_ne (ne_of_none e f1)]
    exact so.sub b x e
  · obtain ⟨a, ea, h⟩ := so.cell k c hk
    have na := at_ne ea f2
    exact ⟨a, ea, h.move (Grow.refl _ _) (fun o e => by rw [upd_ne na]; exact e) fun e => e⟩
  · rw [upd_ne (ne_of_none (so.fr b x e) hp)]
    exact so.fr b x e
/-- a new cell -/
theorem SOk.newLive (so : SOk B R F m μ H) {p : Addr} {c : Cell} {o : HO} (hp : H p = none) (lo : LiveOk B F m c o) (hr : c.nr = true) :
    Grow F m F (m ++ [p]) ∧ SOk B R F (m ++ [p]) (μ ++ [c]) (upd H p o) := by
  obtain ⟨f1, f2⟩ := so.fresh hp
  have g : Grow F m F (m ++ [p]) := ⟨Same.refl F, fun k a e => by
    rw [List.getElem?_append_left (List.getElem?_eq_some_iff.mp e).1]
    exact e⟩
  have last : ∀ {k : Nat} {c' : Cell}, ¬ k < μ.length → (μ ++ [c])[k]? = some c' → k = μ.length ∧ c' = c := by
    intro k c' hl hk
    rw [List.getElem?_append_right (by omega)] at hk
    have hm := List.mem_of_getElem? hk
    rw [List.mem_singleton] at hm
    have := (List.getElem?_eq_some_iff.mp hk).1
    have h1 : [c].length = 1 := rfl
    exact ⟨by omega, hm⟩
  refine ⟨g, ⟨fun b x e => ?_, ?_, fun k c' hk => ?_, ?_, fun k c' hk => ?_, fun b x e => ?_, fun b x e => ?_, tabs_new so.tb hp, so.pF, so.pR⟩⟩
  · rw [upd_ne (ne_of_none e f1)]
    exact so.sub b x e
  · rw [List.length_append, List.length_append, so.len]
    rfl
  · by_cases hl : k < μ.length
    · rw [List.getElem?_append_left hl] at hk
      obtain ⟨a, ea, h⟩ := so.cell k c' hk
      have na := at_ne ea f2
      exact ⟨a, g.pre _ _ ea, h.move g (fun o e => by rw [upd_ne na]; exact e) fun e => e⟩
    · obtain ⟨rfl, rfl⟩ := last hl hk
      refine ⟨p, ?_, .inr ⟨f1, o, upd_same, lo.mono g⟩⟩
      rw [← so.len, List.getElem?_append_right (Nat.le_refl _), Nat.sub_self]
      rfl
  · rw [List.nodup_append]
    exact ⟨so.nd, by simp, fun a ha b hb => by
      rw [List.mem_singleton] at hb
      subst hb
      exact fun e => f2 (e ▸ ha)⟩
  · by_cases hl : k < μ.length
    · rw [List.getElem?_append_left hl] at hk
      exact so.nr k c' hk
    · obtain ⟨rfl, rfl⟩ := last hl hk
      exact hr
  · have nb : b ≠ p := ne_of_none (so.fr b x e) hp
    rw [upd_ne nb]
    exact so.fr b x e
  · have nb : b ≠ p := ne_of_none (so.fr b x e) hp
    obtain ⟨q1, q2⟩ := so.ap b x e
    exact ⟨q1, fun hm => by
      rcases List.mem_append.mp hm with h | h
      · exact q2 h
      · rw [List.mem_singleton] at h
        exact nb h⟩
/-- a live cell, its thing -/
theorem SOk.live (so : SOk B R F m μ H) {k : Nat} {c : Cell} {a : Addr} (hk : μ[k]? = some c) (ea : m[k]? = some a) (hc : ∀ d, c ≠ .frz d) : F a = none ∧ ∃ o, H a = some o ∧ LiveOk B F m c o := by
  obtain ⟨b, eb, h⟩ := so.cell k c hk
  rw [ea] at eb
  cases eb
  rcases h with ⟨d, e, _⟩ | h
  · exact absurd e (hc d)
  · exact h
/-- what lies at a cell that is not data yet -/
theorem SOk.plAt (so : SOk B R F m μ H) {k : Nat} {a : Addr} (ea : m[k]? = some a) (hF : F a = none) : ∃ o, H a = some o ∧ isPl o = true := by
  have hk : k < μ.length := by
    have := (List.getElem?_eq_some_iff.mp ea).1
    rw [so.len] at this
    exact this
  obtain ⟨b, e', h⟩ := so.cell k _ (List.getElem?_eq_getElem hk)
  rw [ea] at e'
  cases e'
  rcases h with ⟨_, _, _, o, f⟩ | ⟨_, o, q, l⟩
  · rw [hF] at f
    cases f
  · exact ⟨o, q, l.pl⟩
/-- a cell is changed -/
theorem SOk.put (so : SOk B R F m μ H) {k : Nat} {a : Addr} {c : Cell} {o : HO} (ea : m[k]? = some a) (hF : F a = none) (lo : LiveOk B F m c o) (hr : c.nr = true) : SOk B R F m (μ.set k c) (upd H a o) := by
  have self : ∀ {c' : Cell}, (μ.set k c)[k]? = some c' → c' = c := by
    intro c' hj
    have hl : k < μ.length := by
      have := (List.getElem?_eq_some_iff.mp hj).1
      rw [List.length_set] at this
      exact this
    rw [List.getElem?_set_self hl] at hj
    exact (Option.some.inj hj).symm
  obtain ⟨oo, eo, po⟩ := so.plAt ea hF
  refine ⟨fun b x e => ?_, ?_, fun j c' hj => ?_, so.nd, fun j c' hj => ?_, fun b x e => ?_, so.ap, tabs_upd so.tb eo po, so.pF, so.pR⟩
  · rw [upd_ne (ne_of_none e hF)]
    exact so.sub b x e
  · rw [List.length_set]
    exact so.len
  · by_cases hjk : k = j
    · subst hjk
      rw [self hj]
      exact ⟨a, ea, .inr ⟨hF, o, upd_same, lo⟩⟩
    · rw [List.getElem?_set_ne hjk] at hj
      obtain ⟨b, eb, h⟩ := so.cell j c' hj
      have nb : b ≠ a := fun e => by
        subst e
        exact hjk (nodup_at so.nd ea eb)
      exact ⟨b, eb, h.move (Grow.refl _ _) (fun o e => by rw [upd_ne nb]; exact e) fun e => e⟩
  · by_cases hjk : k = j
    · subst hjk
      rw [self hj]
      exact hr
    · rw [List.getElem?_set_ne hjk] at hj
      exact so.nr j c' hj
  · have nb : b ≠ a := fun z => by
      subst z
      exact (so.ap b x e).2 (List.mem_of_getElem? ea)
    rw [upd_ne nb]
    exact so.fr b x e
/-- a cell becomes data -/
theorem SOk.freeze (so : SOk B R F m μ H) {k : Nat} {a : Addr} {o : HO} {d : D} (ea : m[k]? = some a) (hF : F a = none) (hH : H a = some o) (hd : d.nr = true) (rp : Rep B (upd F a o) m d (.ref a)) :
    Grow F m (upd F a o) m ∧ SOk B R (upd F a o) m (μ.set k (.frz d)) H := by
  have g : Grow F m (upd F a o) m := Grow.new hF
  have self : ∀ {c' : Cell}, (μ.set k (.frz d))[k]? = some c' → c' = .frz d := by
    intro c' hj
    have hl : k < μ.length := by
      have := (List.getElem?_eq_some_iff.mp hj).1
      rw [List.length_set] at this
      exact this
    rw [List.getElem?_set_self hl] at hj
    exact (Option.some.inj hj).symm
  obtain ⟨oo, eo, po⟩ := so.plAt ea hF
  have po : isPl o = true := by
    rw [hH] at eo
    cases eo
    exact po
  refine ⟨g, ⟨fun b x e => ?_, ?_, fun j c' hj => ?_, so.nd, fun j c' hj => ?_, so.fr, fun b x e => ?_, so.tb, fun b x e => pl_upd so.pF po e, so.pR⟩⟩
  · by_cases hb : b = a
    · subst hb
      rw [upd_same] at e
      rw [← e]
      exact hH
    · rw [upd_ne hb] at e
      exact so.sub b x e
  · rw [List.length_set]
    exact so.len
  · by_cases hjk : k = j
    · subst hjk
      rw [self hj]
      exact ⟨a, ea, .inl ⟨d, rfl, rp, o, upd_same⟩⟩
    · rw [List.getElem?_set_ne hjk] at hj
      obtain ⟨b, eb, h⟩ := so.cell j c' hj
      have nb : b ≠ a := fun e => by
        subst e
        exact hjk (nodup_at so.nd ea eb)
      exact ⟨b, eb, h.move g (fun o e => e) fun e => by rw [upd_ne nb]; exact e⟩
  · by_cases hjk : k = j
    · subst hjk
      rw [self hj]
      exact hd
    · rw [List.getElem?_set_ne hjk] at hj
      exact so.nr j c' hj
  · obtain ⟨q1, q2⟩ := so.ap b x e
    have nb : b ≠ a := fun z => by
      subst z
      exact q2 (List.mem_of_getElem? ea)
    exact ⟨by rw [upd_ne nb]; exact q1, q2⟩
/-- the last cells are let go -/
theorem SOk.cut (so : SOk B R F m' μ' H) (n : Nat) : SOk B R F (m'.take n) (μ'.take n) H := by
  have at_ : ∀ {k : Nat} {c : Cell}, (μ'.take n)[k]? = some c → k < n ∧ μ'[k]? = some c := by
    intro k c hk
    have hkn : k < n := by
      have := (List.getElem?_eq_some_iff.mp hk).1
      rw [List.length_take] at this
      omega
    rw [List.getElem?_take_of_lt hkn] at hk
    exact ⟨hkn, hk⟩
  refine ⟨so.sub, by rw [List.length_take, List.length_take, so.len], fun k c hk => ?_, so.nd.sublist (List.take_sublist _ _), fun k c hk => ?_, so.fr, fun b x e => ⟨(so.ap b x e).1, fun hm => (so.ap b x e).2 (List.mem_of_mem_take hm)⟩, so.tb, so.pF, so.pR⟩
  · obtain ⟨hkn, hk⟩ := at_ hk
    obtain ⟨a, ea, h⟩ := so.cell k c hk
    have hi := so.nr k c hk
    refine ⟨a, (List.getElem?_take_of_lt hkn).trans ea, ?_⟩
    rcases h with ⟨d, rfl, r, o, f⟩ | ⟨f, o, e, l⟩
    · exact .inl ⟨d, rfl, Rep.any _ _ hi r, o, f⟩
    · exact .inr ⟨f, o, e, l.any hi⟩
  · exact so.nr k c (at_ hk).2
/-- a new thing that stands by itself -/
theorem SOk.hold (so : SOk B R F m μ H) {p : Addr} {o : HO} (hp : H p = none) (ho : isPl o = true := by rfl) : SOk B (upd R p o) F m μ (upd H p o) := by
  obtain ⟨f1, f2⟩ := so.fresh hp
  refine ⟨fun b x e => ?_, so.len, fun k c hk => ?_, so.nd, so.nr, fun b x e => ?_, fun b x e => ?_, tabs_new so.tb hp, so.pF, fun b x e => pl_upd so.pR ho e⟩
  · rw [upd_ne (ne_of_none e f1)]
    exact so.sub b x e
  · obtain ⟨a, ea, h⟩ := so.cell k c hk
    have na := at_ne ea f2
    exact ⟨a, ea, h.move (Grow.refl _ _) (fun o e => by rw [upd_ne na]; exact e) fun e => e⟩
  · by_cases hb : b = p
    · subst hb
      rw [upd_same] at e ⊢
      exact e
    · rw [upd_ne hb] at e ⊢
      exact so.fr b x e
  · by_cases hb : b = p
    · subst hb
      exact ⟨f1, f2⟩
    · rw [upd_ne hb] at e
      exact so.ap b x e
/-- it is changed -/
theorem SOk.turn {p : Addr} {o o' : HO} (so : SOk B (upd R p o) F m μ H) (ho : isPl o' = true := by rfl) : SOk B (upd R p o') F m μ (upd H p o') := by
  obtain ⟨f1, f2⟩ := so.ap p o upd_same
  refine ⟨fun b x e => ?_, so.len, fun k c hk => ?_, so.nd, so.nr, fun b x e => ?_, fun b x e => ?_, tabs_upd so.tb (so.fr p o upd_same) (so.pR p o upd_same), so.pF, fun b x e => ?_⟩
  · rw [upd_ne (ne_of_none e f1)]
    exact so.sub b x e
  · obtain ⟨a, ea, h⟩ := so.cell k c hk
    have na := at_ne ea f2
    exact ⟨a, ea, h.move (Grow.refl _ _) (fun o e => by rw [upd_ne na]; exact e) fun e => e⟩
  · by_cases hb : b = p
    · subst hb
      rw [upd_same] at e ⊢
      exact e
    · rw [upd_ne hb] at e ⊢
      exact so.fr b x (by rw [upd_ne hb]; exact e)
  · by_cases hb : b = p
    · subst hb
      exact ⟨f1, f2⟩
    · rw [upd_ne hb] at e
      exact so.ap b x (by rw [upd_ne hb]; exact e)
  · by_cases hb : b = p
    · subst hb
      rw [upd_same] at e
      cases e
      exact ho
    · exact so.pR b x (by rw [upd_ne hb] at e ⊢; exact e)
/-- it becomes data -/
theorem SOk.give {p : Addr} {o : HO} (so : SOk B (upd R p o) F m μ H) (hR : R p = none) : Grow F m (upd F p o) m ∧ SOk B R (upd F p o) m μ H := by
  obtain ⟨f1, f2⟩ := so.ap p o upd_same
  have g : Grow F m (upd F p o) m := Grow.new f1
  have rr : ∀ {b x}, R b = some x → b ≠ p := fun e => ne_of_none e hR
  refine ⟨g, ⟨fun b x e => ?_, so.len, fun k c hk => ?_, so.nd, so.nr, fun b x e => ?_, fun b x e => ?_, so.tb, fun b x e => pl_upd so.pF (so.pR p o upd_same) e, fun b x e => so.pR b x (by rw [upd_ne (rr e)]; exact e)⟩⟩
  · by_cases hb : b = p
    · subst hb
      rw [upd_same] at e
      rw [← e]
      exact so.fr b o upd_same
    · rw [upd_ne hb] at e
      exact so.sub b x e
  · obtain ⟨a, ea, h⟩ := so.cell k c hk
    have na := at_ne ea f2
    exact ⟨a, ea, h.move g (fun o e => e) fun e => by rw [upd_ne na]; exact e⟩
  · exact so.fr b x (by rw [upd_ne (rr e)]; exact e)
  · obtain ⟨q1, q2⟩ := so.ap b x (by rw [upd_ne (rr e)]; exact e)
    exact ⟨by rw [upd_ne (rr e)]; exact q1, q2⟩
end

/-! ### what may be looked at just now -/
def Seen (B : Bk) (F : Hp) (m : List Addr) (H : Hp) : D → V → Prop
  | .lst xs, v => ∃ a vs, v = .ref a ∧ H a = some (.lst vs) ∧ RepL B F m xs vs
  | .dic ks xs, v => ∃ a vs, v = .ref a ∧ H a = some (.dK (ks.zip vs)) ∧ ks.length = vs.length ∧ RepL B F m xs vs
  | d, v => Rep B F m d v
theorem Rep.seen {B : Bk} {F : Hp} {m : List Addr} {H : Hp} (s : Same F H) {d : D} {v : V} (h : Rep B F m d v) : Seen B F m H d v := by
  cases d with
  | lst xs =>
    obtain ⟨a, vs, e, f, r⟩ := h
    exact ⟨a, vs, e, s _ _ f, r⟩
  | dic ks xs =>
    obtain ⟨a, vs, e, f, l, r⟩ := h
    exact ⟨a, vs, e, s _ _ f, l, r⟩
  | _ => exact h
theorem look_ok {B : Bk} {R F : Hp} {m : List Addr} {μ : Store} {H : Hp} (so : SOk B R F m μ H) {d : D} {v : V} (h : Rep B F m d v) : Seen B F m H (look μ d) v := by
  cases d with
  | ref k =>
    obtain ⟨a, ea, rfl⟩ := h
    cases e : μ[k]? with
    | none =>
      simp only [look, e]
      exact ⟨a, ea, rfl⟩
    | some c =>
      cases c with
      | own xs =>
        obtain ⟨_, o, ho, vs, rfl, r⟩ := so.live e ea fun _ => nofun
        simp only [look, e]
        exact ⟨a, vs, rfl, ho, r⟩
      | shr xs =>
        obtain ⟨_, o, ho, vs, rfl, r⟩ := so.live e ea fun _ => nofun
        simp only [look, e]
        exact ⟨a, vs, rfl, ho, r⟩
      | dct ks xs =>
        obtain ⟨_, o, ho, vs, rfl, l, r⟩ := so.live e ea fun _ => nofun
        simp only [look, e]
        exact ⟨a, vs, rfl, ho, l, r⟩
      | obj c fs =>
        simp only [look, e]
        exact ⟨a, ea, rfl⟩
      | frz d =>
        obtain ⟨b, eb, h⟩ := so.cell _ _ e
        rw [ea] at eb
        cases eb
        simp only [look, e]
        rcases h with ⟨d', e', r, _⟩ | ⟨_, _, _, z⟩
        · cases e'
          exact r.seen so.sub
        · exact z.elim
  | _ => exact h.seen so.sub

def RepX (B : Bk) (F : Hp) (m : List Addr) (x : Exc) (cls : Value) (dx : Option Addr) : Prop :=
  ∃ ns, B.exc[x.c]? = some (cls, ns) ∧ ((ns = [] ∧ x.ds = [] ∧ dx = none) ∨ ns ≠ [] ∧ ∃ d vs, dx = some d ∧ ns.length = vs.length ∧ F d = some (.xd (ns.zip vs)) ∧ RepL B F m x.ds vs)
end Sg
/-! Sg3: judgements; the checker; the rules for expressions. -/
namespace Sg
open PySem L2

/-! ### what code does, said by the machine itself -/
def SE (X : Cx) (e : Expr) : TE := fun σ H Q => ∀ (pins : List (Addr × Obj)) (s : Shared), L2.Inv X pins σ H s → wpAny (model X.prog X.w) X.A (eval e X.env) (EP X pins σ Q) X.xe s
theorem pe_se (X : Cx) (e : Expr) : PE X e (SE X e) := ⟨fun pins s σ H Q I h => h pins s I⟩
theorem SE.of {X : Cx} {e : Expr} {t : TE} {σ : St} {H : Hp} {Q : VK} (h : PE X e t) (q : t σ H Q) : SE X e σ H Q := fun pins s I => h.run pins s σ H Q I q
def ST (X : Cx) (e : Expr) : TT := fun σ H Q => ∀ (pins : List (Addr × Obj)) (s : Shared), L2.Inv X pins σ H s → wpAny (model X.prog X.w) X.A (isTrue e X.env (eval e X.env)) (TP X pins σ Q) X.xe s
theorem pt_st (X : Cx) (e : Expr) : PT X e (ST X e) := ⟨fun pins s σ H Q I h => h pins s I⟩
theorem ST.of {X : Cx} {e : Expr} {t : TT} {σ : St} {H : Hp} {Q : Bool → Hp → Prop} (h : PT X e t) (q : t σ H Q) : ST X e σ H Q := fun pins s I => h.run pins s σ H Q I q
def SA (X : Cx) (es : List Expr) : TA := fun σ H Q => ∀ (pos : Pos) (pins : List (Addr × Obj)) (s : Shared), L2.Inv X pins σ H s → wpAny (model X.prog X.w) X.A (spliced (backTo pos (starEach es X.env))) (AP X pins σ Q) X.xe s
theorem pa_sa (X : Cx) (es : List Expr) : PA X es (SA X es) := ⟨fun pos pins s σ H Q I h => h pos pins s I⟩
theorem SA.of {X : Cx} {es : List Expr} {t : TA} {σ : St} {H : Hp} {Q : List V → Hp → Prop} (h : PA X es t) (q : t σ H Q) : SA X es σ H Q := fun pos pins s I => h.run pos pins s σ H Q I q
def SO (X : Cx) (e : Option Expr) : TO := fun σ H Q => ∀ (pins : List (Addr × Obj)) (s : Shared), L2.Inv X pins σ H s →
  wpAny (model X.prog X.w) X.A (evalPart e X.env) (fun u s' => ∃ o H', L2.Inv X pins σ H' s' ∧ IsPart u o ∧ Q o H') X.xe s
theorem po_so (X : Cx) (e : Option Expr) : PO X e (SO X e) := ⟨fun pins s σ H Q I h => h pins s I⟩
def SB (X : Cx) (f : Value → Value → Sem Value) : R2 := fun x y H Q => ∀ (pins : List (Addr × Obj)) (s : Shared) (σ : St) (v u : Value), L2.Inv X pins σ H s → RelV x v → RelV y u → wpAny (model X.prog X.w) X.A (f v u) (EP X pins σ Q) X.xe s
theorem op_sb (X : Cx) (f : Value → Value → Sem Value) : OpR X f (SB X f) := fun pins s σ H x y v u Q I rx ry h => h pins s σ v u I rx ry
theorem SB.of {X : Cx} {f : Value → Value → Sem Value} {r : R2} {x y : V} {H : Hp} {Q : VK} (h : OpR X f r) (q : r x y H Q) : SB X f x y H Q := fun pins s σ v u I rx ry => h pins s σ H x y v u Q I rx ry q
def SC (X : Cx) (f : Value) : List V → Hp → VK → Prop := fun xs H Q => ∀ (pins : List (Addr × Obj)) (s : Shared) (σ : St) (us : List Value), L2.Inv X pins σ H s → Vals xs us → wpAny (model X.prog X.w) X.A (call f us) (EP X pins σ Q) X.xe s
theorem call_sc (X : Cx) (f : Value) : CallR X f (SC X f) := fun pins s σ H xs us Q I rx h => h pins s σ us I rx
theorem SC.of {X : Cx} {f : Value} {r : List V → Hp → VK → Prop} {xs : List V} {H : Hp} {Q : VK} (h : CallR X f r) (q : r xs H Q) : SC X f xs H Q := fun pins s σ us I rx => h pins s σ H xs us Q I rx q

/-! ### what follows -/
def Post {α : Type} (B : Bk) (R : Hp) (W : WX) (σ : St) (F : Hp) (m : List Addr) (r : Except Exc α × Store) (K : Hp → List Addr → Hp → α → Prop) : Prop := match r with
  | (.ok a, μ') => ∀ F' m' H', Grow F m F' m' → SOk B R F' m' μ' H' → K F' m' H' a
  | (.error x, μ') => ∀ F' m' H' cls dx, Grow F m F' m' → SOk B R F' m' μ' H' → RepX B F' m' x cls dx → W cls dx σ H'
section
variable {α β : Type} {B : Bk} {R : Hp} {W : WX} {σ : St} {F F1 : Hp} {m m1 : List Addr} {μ : Store} {x : M α} {k : α → M β} {r : Except Exc β × Store} {Ka : Hp → List Addr → Hp → α → Prop} {Kb : Hp → List Addr → Hp → β → Prop}
theorem Post.grow (h : Post B R W σ F m r Kb) (g : Grow F m F1 m1) : Post B R W σ F1 m1 r Kb := by
  obtain ⟨r1, r2⟩ := r
  cases r1 with
  | ok a => exact fun F' m' H' g' => h F' m' H' (g.trans g')
  | error x => exact fun F' m' H' cls dx g' => h F' m' H' cls dx (g.trans g')
theorem bd_post (h : bd x k μ = some r) (hp : Post B R W σ F m r Kb) (hk : ∀ a μ1, x μ = some (.ok a, μ1) → k a μ1 = some r → ∀ F1 m1 H1, Grow F m F1 m1 → SOk B R F1 m1 μ1 H1 → Ka F1 m1 H1 a) :
    ∃ ra, x μ = some ra ∧ Post B R W σ F m ra Ka := by
  unfold bd at h
  cases e : x μ with
  | none =>
    rw [e] at h
    cases h
  | some ra =>
    rw [e] at h
    obtain ⟨r1, μ1⟩ := ra
    refine ⟨_, rfl, ?_⟩
    cases r1 with
    | ok a => exact fun F' m' H' g so => hk a μ1 e h F' m' H' g so
    | error z =>
      have h := Option.some.inj h
      subst h
      exact hp
theorem up_some {o : Option α} {r : Except Exc α × Store} (h : up o μ = some r) : ∃ a, o = some a ∧ r = (.ok a, μ) := by
  unfold up at h
  cases o with
  | none => cases h
  | some a => exact ⟨a, rfl, (Option.some.inj h).symm⟩
theorem rt_some {a : α} {r : Except Exc α × Store} (h : rt a μ = some r) : r = (.ok a, μ) := (Option.some.inj h).symm
end

/-! ### the values of the names -/
structure ROk (B : Bk) (F : Hp) (m : List Addr) (ρ : Rho) (σ : St) : Prop where
  len : ρ.length = σ.length
  val : ∀ (i : Nat) (d : D), ρ[i]? = some (some d) → ∃ v, σ[i]? = some (some v) ∧ Rep B F m d v
section
variable {B : Bk} {F F' : Hp} {m m' : List Addr} {ρ : Rho} {σ : St}
theorem ROk.mono (h : ROk B F m ρ σ) (g : Grow F m F' m') : ROk B F' m' ρ σ := ⟨h.len, fun i d e => by
  obtain ⟨v, h1, h2⟩ := h.val i d e
  exact ⟨v, h1, Rep.mono g d v h2⟩⟩
theorem ROk.set (h : ROk B F m ρ σ) (i : Nat) {d : D} {v : V} (r : Rep B F m d v) : ROk B F m (ρ.set i (some d)) (σ.set i (some v)) := by
  refine ⟨by rw [List.length_set, List.length_set]; exact h.len, fun j x e => ?_⟩
  by_cases hj : i = j
  · subst hj
    have hl : i < ρ.length := by
      have := (List.getElem?_eq_some_iff.mp e).1
      rw [List.length_set] at this
      exact this
    rw [List.getElem?_set_self hl] at e
    have e := Option.some.inj (Option.some.inj e)
    subst e
    exact ⟨v, List.getElem?_set_self (by rw [← h.len]; exact hl), r⟩
  · rw [List.getElem?_set_ne hj] at e ⊢
    exact h.val j x e
theorem ROk.gone (h : ROk B F m ρ σ) (i : Nat) : ROk B F m (ρ.set i none) (σ.set i none) := by
  refine ⟨by rw [List.length_set, List.length_set]; exact h.len, fun j x e => ?_⟩
  by_cases hj : i = j
  · subst hj
    have hl : i < ρ.length := by
      have := (List.getElem?_eq_some_iff.mp e).1
      rw [List.length_set] at this
      exact this
    rw [List.getElem?_set_self hl] at e
    cases e
  · rw [List.getElem?_set_ne hj] at e ⊢
    exact h.val j x e
theorem ROk.wipe (h : ROk B F m ρ σ) : ∀ vs : List Nat, ROk B F m (wipeR ρ vs) (L2.wipe σ vs)
  | [] => h
  | v :: vs => (ROk.wipe h vs).gone v
end

/-! ### the law's fixed things, a def's names -/
structure Gx where
  gd : Bool
  P : Program
  w : World
  mg : Str → Option Value
  base : Heap
  B : Bk
  lv : Nat
  fa : List Addr
/-- the names of the classes of exceptions, of the catchers -/
structure NmX where
  xns : List Str
  cats : List Str
/-- the text's names: of defs (empty for methods), constants, classes -/
structure Nm where
  fns : List Str
  cons : List Str
  cls : List Str
  gd : Bool
  x : NmX
/-- top: a def's own block; lam: it makes lambdas -/
structure CT where
  N : List Str
  sc : Scope
  fn : Str → Bool
  nm : Nm
  top : Bool
  lam : Bool

/-- a def, by the values it is called with; nothing is being shown if gd -/
def FnP (gd : Bool) (P : Program) (w : World) (K : PySem.W.Frag) (mg : Str → Option Value) (base : Heap) (k : Nat) (f : Addr) (sp : Sp) : Prop :=
  ∀ (A : Around) (outer : List Env) (s : Shared) (H : Hp) (us : List Value) (vs : List V) (Q : VK) (E : XK),
    Room k A → (gd = true → A.guards = some []) → Env0 P w K mg base A outer s H → Vals vs us → sp vs H Q E →
      codeAny (model P w) A (.call (.ref f) ⟨us, []⟩) (CR (L2.CX P w) outer P w H s Q E) s
theorem FnP.mono {gd : Bool} {P : Program} {w : World} {K : PySem.W.Frag} {mg : Str → Option Value} {base : Heap} {j k : Nat} {f : Addr} {sp : Sp}
    (F : FnP gd P w K mg base j f sp) (h : j ≤ k) : FnP gd P w K mg base k f sp :=
  fun A outer s H us vs Q E hr => F A outer s H us vs Q E (hr.mono h)

/-- what a def promises: t, upon data -/
def Prm (B : Bk) (t : List D → M D) : Sp := fun vs H Q E => ∃ R F m μ ds r, SOk B R F m μ H ∧ RepL B F m ds vs ∧ t ds μ = some r ∧
  Post B R (fun cls dx _ H' => E cls dx H') [] F m r (fun F' m' H' d => ∀ v, Rep B F' m' d v → Q v H')

def bltNames : List Str := ["len", "abs", "int", "max", "min", "all", "repr", "isinstance", "range", "str", "tuple", "list", "dict", "bool", "sum", "any", "sorted", "zip", "enumerate", "set"]
def tyNames : List String := ["int", "str", "tuple", "list", "dict", "bool"]
def tyNames7 : List String := ["NoneType", "bool", "int", "str", "tuple", "list", "dict"]
/-- what of the text a class must have -/
structure ClOk (K : PySem.W.Frag) (a : Addr) (C : Cl) (fa : List Addr) : Prop where
  cls : L2.Cls K a
  no : ∀ x ∈ C.fs, NoAttr K a x
  nd : C.fs.Nodup
  ln : C.fs.length ≤ 900
  ini : ∃ f, fa[C.ini]? = some f ∧ Mk K a f
  ms : ∀ x i, C.ms.lookup x = some i → ∃ f, fa[i]? = some f ∧ x ∉ C.fs ∧ Meth K a x f ∧ PySem.W.fnIn K f = true
  ps : ∀ x i, C.ps.lookup x = some i → ∃ f, fa[i]? = some f ∧ ∃ p, PropOf K a x p f
  cs : ∀ x i, C.cs.lookup x = some i → ∃ f, fa[i]? = some f ∧ ∃ p mc, ClX.CRead K a mc ∧ ClX.CMet K a mc x p f
  isi : SlX.SIsi K a
  sf : PySem.W.selfFirst K a = true
  nf : PySem.W.notFirst K a (.ref a) = true
  nq : PySem.W.noSeq K a = true
def notStar : Expr → Bool
  | .Starred _ _ => false
  | _ => true
/-- a clause that returns: read off the text -/
def chkA (N : List Str) (sl : Option Nat) (a : Str) : Expr → Bool
  | .Attribute (.Name y _) nm _ => decide (nm = a) && (match sl with
    | some i => decide (N[i]? = some y)
    | none => false)
  | _ => false
def chkHE (n : NmX) (N : List Str) (sc : Scope) (sl : Option Nat) : HE → Expr → Bool
  | .con .non, e => match e with
    | .Constant .none _ _ => true
    | _ => false
  | .con (.bl b), e => match e with
    | .Constant (.bool c) _ _ => b == c
    | _ => false
  | .con (.int b), e => match e with
    | .Constant (.int c) _ _ => b == c
    | _ => false
  | .con (.str b), e => match e with
    | .Constant (.str c) _ _ => decide (b = c)
    | _ => false
  | .con _, _ => false
  | .rep x a, e => match e with
    | .BinOp (.Constant (.str y) _ _) .Add (.Call (.Name r _) [z] [] _) _ => decide (x = y) && decide (r = "repr") && decide (sc.names.lookup r = some .globalImplicit) && notStar z && chkA N sl a z
    | _ => false
  | .cat x a, e => match e with
    | .BinOp (.Constant (.str y) _ _) .Add z _ => decide (x = y) && chkA N sl a z
    | _ => false
  | .att a, e => chkA N sl a e
  | .isi c x z, e => match e with
    | .IfExp (.Call (.Name r _) [.Name y _, .Name C _] [] _) (.Constant (.str x') _ _) (.Constant (.str z') _ _) _ => decide (r = "isinstance") && decide (sc.names.lookup r = some .globalImplicit) && decide (sc.names.lookup C = some .globalImplicit) && !(C == ("__debug__" : Str)) &&
        decide (n.xns[c]? = some C) && decide (x = x') && decide (z = z') && (match sl with
        | some i => decide (N[i]? = some y)
        | none => false)
    | _ => false
def chkHd (n : NmX) (N : List Str) (sc : Scope) (h : Hd) : ExceptHandler → Bool
  | .ExceptHandler (some (.Name x _)) nm [.Return (some e) _] _ => decide (n.xns[h.c]? = some x) && decide (sc.names.lookup x = some .globalImplicit) && !(x == ("__debug__" : Str)) && (match h.sl, nm with
    | some i, some y => decide (N[i]? = some y) && decide (sc.names.lookup y = some .local) && !(y == ("__debug__" : Str)) && !(y == ("__classdict__" : Str))
    | none, none => true
    | _, _ => false) && chkHE n N sc h.sl h.he e
  | _ => false
def chkHds (n : NmX) (N : List Str) (sc : Scope) : List Hd → List ExceptHandler → Bool
  | [], l => l.isEmpty
  | h :: r, l => match l with
    | e :: t => chkHd n N sc h e && chkHds n N sc r t
    | [] => false
/-- the statement of a catcher's try -/
def chkAct (ret : Bool) (a : Str) : Stmt → Bool
  | .Expr (.Call (.Name x _) [] [] _) _ => !ret && decide (x = a)
  | .Return (some (.Call (.Name x _) [] [] _)) _ => ret && decide (x = a)
  | _ => false
def chkCon (d : D) (e : Expr) : Bool := chkHE ⟨[], []⟩ [] ⟨.function, [], false, false, []⟩ none (.con d) e
def chkCat (n : NmX) (N : List Str) (sc : Scope) (a : Str) (c : Cat) : List Stmt → Bool
  | [.Try [s] (h :: hs) [] [] _] => chkAct c.ret a s && chkHds n N sc c.hs (h :: hs) && c.ret
  | [.Try [s] (h :: hs) [] [] _, .Return (some e) _] => chkAct c.ret a s && chkHds n N sc c.hs (h :: hs) && !c.ret && (match c.fin with
    | some d => chkCon d e
    | none => false)
  | _ => false
/-- a catcher -/
def CatOk (g : Gx) (n : NmX) (x : Str) (c : Cat) : Prop := ∃ ga st fd a N, g.mg x = some (.ref ga) ∧ PySem.W.keepIn g.B.K (.ref ga) = true ∧ Fun g.B.K x x st ga fd ∧ Binds g.B.K fd [a] [] ∧ FnScope N [a] (defScope st) ∧ N[0]? = some a ∧
  (defScope st).names.lookup a = some .local ∧ (a == ("__debug__" : Str)) = false ∧ (a == ("__classdict__" : Str)) = false ∧ (x == ("__debug__" : Str)) = false ∧ chkCat n N (defScope st) a c (defBody st) = true
/-- a class of exceptions -/
structure XcOk (g : Gx) (c : Nat) (k : Xc) (x : Str) (C : Addr) : Prop where
  mg : g.mg x = some (.ref C)
  bk : g.B.exc[c]? = some (.ref C, k.att.toList)
  kp : PySem.W.keepIn g.B.K (.ref C) = true
  ex : PySem.W.subIn g.B.K (.ref C) (.type "BaseException") = some true
  ty : PySem.W.typeIn g.B.K (.ref C) = some (.type "type")
  mk0 : k.att = none → ∃ Bn nI iI tl, ExcBaseFacts Bn nI iI tl ∧ PySem.W.excIn g.B.K C tl nI = true
  mk1 : ∀ f, k.att = some f → XfC g.B.K C ∧ PySem.W.findIn g.B.K (.ref C) f = some none ∧ ∃ Bn nI iI tl fI, BsOk Bn nI iI tl ∧ OxC g.B.K C nI tl ∧ PySem.W.findIn g.B.K (.ref C) "__init__" = some (some (.ref fI)) ∧
    PySem.W.typeIn g.B.K (.ref fI) = some (.type "function") ∧ FnP false g.P g.w g.B.K g.mg g.base 1 fI (spIni C f)
  isi : k.att = none → ExcC g.B.K C
  na : PySem.W.subIn g.B.K (.ref C) (.type "AttributeError") = some false
structure XtOk (g : Gx) (T : TabX) (n : NmX) : Prop where
  xc : ∀ (c : Nat) (k : Xc), T.xcs[c]? = some k → ∃ x C, n.xns[c]? = some x ∧ XcOk g c k x C
  nm : ∀ (c : Nat) (x : Str), n.xns[c]? = some x → ∃ k, T.xcs[c]? = some k
  exm : ∀ (c c' : Nat) (k : Xc) (C C' : Addr) (ns ns' : List Str), T.xcs[c]? = some k → g.B.exc[c]? = some (.ref C, ns) → g.B.exc[c']? = some (.ref C', ns') → PySem.W.exmOne g.B.K (.ref C) (.ref C') = some (decide (c' ∈ k.up)) ∧ PySem.W.kitOne g.B.K (.ref C) (.ref C') = some (decide (c' ∈ k.up))
  xl : ∀ (c : Nat) (p : Value × List Str), g.B.exc[c]? = some p → ∃ k, T.xcs[c]? = some k
  cat : ∀ (i : Nat) (c : Cat), T.cats[i]? = some c → ∃ x, n.cats[i]? = some x ∧ CatOk g n x c
structure FnsOk (g : Gx) (T : Tab) (n : Nm) : Prop where
  fn : ∀ (i : Nat) (t : List D → M D), T.fns[i]? = some t → ∃ f, g.fa[i]? = some f ∧ FnP g.gd g.P g.w g.B.K g.mg g.base g.lv f (Prm g.B t)
  gn : ∀ (i : Nat) (x : Str), n.fns[i]? = some x → x ≠ "" → ∃ f, g.fa[i]? = some f ∧ g.mg x = some (.ref f) ∧ PySem.W.keepIn g.B.K (.ref f) = true
  con : ∀ (i : Nat) (d : D) (x : Str), T.cons[i]? = some d → n.cons[i]? = some x → ∃ u v, g.mg x = some u ∧ RelV v u ∧ ∀ F m, Rep g.B F m d v
  cl : ∀ (c : Nat) (C : Cl), T.cls[c]? = some C → ∃ a, g.B.cls[c]? = some (a, C.fs) ∧ ClOk g.B.K a C g.fa
  clk : ∀ (c : Nat) (a : Addr) (ns : List Str), g.B.cls[c]? = some (a, ns) → PySem.W.keepIn g.B.K (.ref a) = true
  cln : ∀ (c : Nat) (x : Str), n.cls[c]? = some x → ∃ a ns, g.B.cls[c]? = some (a, ns) ∧ g.mg x = some (.ref a)
  kit : ∀ (c c' : Nat) (a a' : Addr) (ns ns' : List Str), g.B.cls[c]? = some (a, ns) → g.B.cls[c']? = some (a', ns') → PySem.W.kitOne g.B.K (.ref a) (.ref a') = some (decide (c = c'))
  kitB : ∀ (c : Nat) (a : Addr) (ns : List Str), g.B.cls[c]? = some (a, ns) → ∀ t ∈ tyNames7, PySem.W.kitOne g.B.K (.type t) (.ref a) = some false
  kitT : ∀ (c : Nat) (a : Addr) (ns : List Str), g.B.cls[c]? = some (a, ns) → ∀ t ∈ tyNames, PySem.W.kitOne g.B.K (.ref a) (.type t) = some false
  isi : ∀ (c : Nat) (a : Addr) (ns : List Str), g.B.cls[c]? = some (a, ns) → L2.Cls g.B.K a ∧ SlX.SIsi g.B.K a
  blt : ∀ x ∈ bltNames, g.mg x = none
  gd : n.gd = true → g.gd = true
  pfn : ∀ (i : Nat) (t : List D → M D), T.x.pfn[i]? = some t → ∃ f, g.fa[i]? = some f ∧ FnP false g.P g.w g.B.K g.mg g.base g.lv f (Prm g.B t)
  xt : XtOk g T.x n.x
  lv1 : 1 ≤ g.lv
structure CxOk (g : Gx) (ct : CT) (W : WX) (X : Cx) : Prop where
  prog : X.prog = g.P
  w : X.w = g.w
  K : X.K = g.B.K
  mg : X.mg = g.mg
  base : X.base = g.base
  N : X.N = ct.N
  sc : X.env.scope = ct.sc
  nd : ct.N.Nodup
  calm : X.calm = true
  room : Room (g.lv + 1) X.A
  gu : g.gd = true → X.A.guards = some []
  fn : ∀ x, ct.fn x = true → X.fn x = true
  pas : PassesOwn (model X.prog X.w) X.A X.env X.xe
  tk : Takes X W
  top : ct.top = true → X.stack = X.env :: X.outer ∧ X.env.frame = some X.env.locals
  lam : ct.lam = true → Room (g.lv + 3) X.A ∧ ∃ c P, LamX.TabB X.base X.mg c P ∧ X.env.code = .ref c ∧ (P, X.env.qual ++ "<lambda>") ∈ g.B.tabs ∧ ∀ p ∈ g.B.tabs, p.1 = P → p.2 = X.env.qual ++ "<lambda>"

/-! ### the checker -/
def chkV (ct : CT) (i : Nat) (x : Str) : Bool := decide (ct.N[i]? = some x) && (match ct.sc.names.lookup x with
  | some .local => true
  | some .cell => true
  | some .free => true
  | _ => false) && !(x == ("__debug__" : Str)) && !(x == ("__classdict__" : Str))
def chkG (ct : CT) (x : Str) : Bool := decide (ct.sc.names.lookup x = some .globalImplicit) && !(x == ("__debug__" : Str))
def Blt.nm : Blt → Str
  | .len => "len"
  | .abs => "abs"
  | .int => "int"
  | .max2 => "max"
  | .min2 => "min"
  | .all => "all"
  | .repr => "repr"
  | .any => "any"
  | .sum => "sum"
  | .sorted => "sorted"
  | .tuple => "tuple"
  | .list => "list"
def Mth.nm : Mth → Str
  | .join => "join"
  | .upper => "upper"
def notSet : Expr → Bool
  | .Set _ _ _ => false
  | _ => true
def notSlice : Expr → Bool
  | .Slice _ _ _ _ => false
  | _ => true
def notSuper : Expr → Bool
  | .Call (.Name id _) [] [] _ => id != ("super" : Str)
  | _ => true
def isTup : Expr → Bool
  | .Tuple _ _ _ => true
  | _ => false
def isStar : E → Bool
  | .star _ => true
  | _ => false
def isStrE (e : E) (z : Str) : Bool := match e with
  | .str y => decide (y = z)
  | _ => false
def noStars (es : List E) : Bool := es.all fun e => !isStar e
/-- no test of its own form -/
def plainT : Expr → Bool
  | .UnaryOp .Not _ _ => false
  | .BoolOp _ _ _ => false
  | .IfExp _ _ _ _ => false
  | .Compare _ _ _ _ => false
  | _ => true
mutual
def chkTg (ct : CT) : Tg → Expr → Bool
  | .name i, e => match e with
    | .Name x _ => decide (ct.N[i]? = some x) && (match ct.sc.names.lookup x with
      | some .local => true
      | some .cell => ct.fn x
      | _ => false)
    | _ => false
  | .tup ts, e => match e with
    | .Tuple es _ _ => chkTgs ct ts es
    | _ => false
def chkTgs (ct : CT) : List Tg → List Expr → Bool
  | [], es => es.isEmpty
  | t :: ts, es => match es with
    | e :: r => notStar e && chkTg ct t e && chkTgs ct ts r
    | [] => false
end
mutual
def Tg.slots : Tg → List Nat
  | .name i => [i]
  | .tup ts => Tg.slotsL ts
def Tg.slotsL : List Tg → List Nat
  | [] => []
  | t :: ts => t.slots ++ Tg.slotsL ts
end
def CT.blk (ct : CT) (scope : Scope) : CT := { ct with sc := relS scope ct.sc, fn := fun x => scope.names.lookup x == some .cell, top := false, lam := false }
def CT.lamb (ct : CT) (scope : Scope) : CT := { ct with sc := scope, fn := fun _ => false, nm := { ct.nm with gd := false }, top := false, lam := false }
def noParams : Arguments → Bool
  | ⟨[], [], none, [], [], none, []⟩ => true
  | _ => false
mutual
def chkE (ct : CT) : E → Expr → Bool
  | .non, e => match e with
    | .Constant .none _ _ => true
    | _ => false
  | .bl b, e => match e with
    | .Constant (.bool c) _ _ => b == c
    | _ => false
  | .int i, e => match e with
    | .Constant (.int j) _ _ => i == j
    | _ => false
  | .str x, e => match e with
    | .Constant (.str y) _ _ => decide (x = y)
    | _ => false
  | .var i, e => match e with
    | .Name x _ => chkV ct i x
    | _ => false
  | .raw i, e => match e with
    | .Name x _ => chkV ct i x
    | _ => false
  | .gcon g, e => match e with
    | .Name x _ => chkG ct x && decide (ct.nm.cons[g]? = some x)
    | _ => false
  | .bin op a b, e => match e with
    | .BinOp l o r _ => decide (o = op) && chkE ct a l && chkE ct b r
    | _ => false
  | .neg a, e => match e with
    | .UnaryOp .USub x _ => chkE ct a x
    | _ => false
  | .cmp op a b, e => match e with
    | .Compare l [o] [r] _ => decide (o = op) && notSet r && chkE ct a l && chkE ct b r
    | _ => false
  | .chain op op' a b c, e => match e with
    | .Compare l [o, o'] [r, r'] _ => decide (o = op) && decide (o' = op') && notSet r' && chkE ct a l && chkE ct b r && chkE ct c r'
    | _ => false
  | .and a b, e => match e with
    | .BoolOp .And (x :: y :: rest) pos => chkE ct a x && chkE ct b (if rest.isEmpty then y else .BoolOp .And (y :: rest) pos)
    | _ => false
  | .or a b, e => match e with
    | .BoolOp .Or (x :: y :: rest) pos => chkE ct a x && chkE ct b (if rest.isEmpty then y else .BoolOp .Or (y :: rest) pos)
    | _ => false
  | .not a, e => match e with
    | .UnaryOp .Not x _ => chkE ct a x
    | _ => false
  | .ite c a b, e => match e with
    | .IfExp t x y _ => chkB ct c t && chkE ct a x && chkE ct b y
    | _ => false
  | .tup es, e => match e with
    | .Tuple xs _ _ => chkL ct es xs
    | _ => false
  | .lst es, e => match e with
    | .List xs _ => chkL ct es xs
    | _ => false
  | .emp, e => match e with
    | .Dict [] [] _ => true
    | _ => false
  | .star _, _ => false
  | .own es, e => match e with
    | .List xs _ => chkL ct es xs
    | _ => false
  | .dnw, e => match e with
    | .Dict [] [] _ => true
    | _ => false
  | .call f es, e => match e with
    | .Call (.Name x _) xs [] _ => chkG ct x && decide (ct.nm.fns[f]? = some x) && decide (x ≠ "") && noStars es && chkL ct es xs
    | _ => false
  | .blt b es, e => match e with
    | .Call (.Name x _) xs [] _ => chkG ct x && decide (x = b.nm) && !xs.isEmpty && noStars es && (!decide (b = .repr) || ct.nm.gd) && chkL ct es xs
    | _ => false
  | .isi a t, e => match e with
    | .Call (.Name x _) [y, .Name n _] [] _ => chkG ct x && decide (x = "isinstance") && chkG ct n && (match t with
      | .ty s => decide (n = Str.ofString s) && decide (s ∈ tyNames)
      | .own c => decide (ct.nm.cls[c]? = some n)) && notStar y && chkE ct a y
    | _ => false
  | .mth m o es, e => match e with
    | .Call (.Attribute x nm apos) xs [] pos => decide (nm = m.nm) && notSuper x && (apos.endLine == pos.line) && chkE ct o x && noStars es && chkL ct es xs && decide (xs.length < 30)
    | _ => false
  | .get o k d, e => match e with
    | .Call (.Attribute x nm apos) [y, z] [] pos => decide (nm = "get") && notSuper x && (apos.endLine == pos.line) && notStar y && notStar z && chkE ct o x && chkE ct k y && chkE ct d z
    | _ => false
  | .att o x, e => match e with
    | .Attribute y nm _ => decide (nm = x) && notSuper y && chkE ct o y
    | _ => false
  | .met o x es, e => match e with
    | .Call (.Attribute y nm apos) xs [] pos => decide (nm = x) && notSuper y && (apos.endLine == pos.line) && chkE ct o y && noStars es && chkL ct es xs && decide (xs.length < 30)
    | _ => false
  | .mk c es, e => match e with
    | .Call (.Name x _) xs [] _ => chkG ct x && decide (ct.nm.cls[c]? = some x) && noStars es && chkL ct es xs
    | _ => false
  | .mks c a, e => match e with
    | .Call (.Name x _) [.Starred y _] [] _ => chkG ct x && decide (ct.nm.cls[c]? = some x) && chkE ct a y
    | _ => false
  | .cm c x es, e => match e with
    | .Call (.Attribute (.Name n _) nm apos) xs [] pos => chkG ct n && decide (ct.nm.cls[c]? = some n) && decide (nm = x) && (apos.endLine == pos.line) && !xs.isEmpty && noStars es && chkL ct es xs && decide (xs.length < 30)
    | _ => false
  | .sub o i, e => match e with
    | .Subscript x y _ => notSlice y && chkE ct o x && chkE ct i y
    | _ => false
  | .slc o lo hi, e => match e with
    | .Subscript x (.Slice l h none _) _ => chkE ct o x && chkO ct lo l && chkO ct hi h
    | _ => false
  | .lc vs tg it ifs elt, e => match e with
    | .ListComp y [⟨t, i, cs, n⟩] scope _ => decide (n = 0) && notSet i && blkC ct.N ct.sc scope (vs.map fun v => (ct.N.getD v "", v)) && (Tg.slots tg).all (fun v => decide (v ∈ vs)) &&
        chkI ct it t i && chkTg (ct.blk scope) tg t && chkBs (ct.blk scope) ifs cs && chkE (ct.blk scope) elt y
    | _ => false
  | .lc2 vs vs1 tg it ifs tg1 it1 ifs1 elt, e => match e with
    | .ListComp y [⟨t, i, cs, n⟩, ⟨t1, i1, cs1, n1⟩] scope _ => decide (n = 0) && decide (n1 = 0) && notSet i && notSet i1 && blkC ct.N ct.sc scope (vs.map fun v => (ct.N.getD v "", v)) && (Tg.slots tg).all (fun v => decide (v ∈ vs)) &&
        (Tg.slots tg1).all (fun v => decide (v ∈ vs1)) && vs1.all (fun v => decide (v ∈ vs)) && chkI ct it t i && chkTg (ct.blk scope) tg t && chkBs (ct.blk scope) ifs cs &&
        chkI (ct.blk scope) it1 t1 i1 && chkTg (ct.blk scope) tg1 t1 && chkBs (ct.blk scope) ifs1 cs1 && chkE (ct.blk scope) elt y
    | _ => false
  | .pop o i, e => match e with
    | .Call (.Attribute x nm apos) [y] [] pos => decide (nm = "pop") && notSuper x && (apos.endLine == pos.line) && notStar y && chkE ct o x && chkE ct i y
    | _ => false
  | .ownl a, e => match e with
    | .Call (.Name x _) [y] [] _ => chkG ct x && decide (x = "list") && notStar y && chkE ct a y
    | _ => false
  | .cnt o a, e => match e with
    | .Call (.Attribute x nm apos) [y] [] pos => decide (nm = "count") && notSuper x && (apos.endLine == pos.line) && notStar y && chkE ct o x && chkE ct a y
    | _ => false
  | .sset a, e => match e with
    | .Call (.Name x _) [.Call (.Name z _) [y] [] _] [] _ => chkG ct x && decide (x = "sorted") && chkG ct z && decide (z = "set") && notStar y && chkE ct a y
    | _ => false
  | .rev a, e => match e with
    | .Subscript x (.Slice none none (some (.UnaryOp .USub (.Constant (.int 1) _ _) _)) _) _ => chkE ct a x
    | _ => false
  | .fs es, e => match e with
    | .JoinedStr (x :: y :: r) _ => chkF ct es (x :: y :: r)
    | _ => false
  | .strf a, e => match e with
    | .Call (.Name x _) [y] [] _ => chkG ct x && decide (x = "str") && notStar y && chkE ct a y
    | _ => false
  | .lam f a, e => match e with
    | .Call (.Name x _) [.Lambda ps body scope _] [] _ => ct.lam && ct.nm.gd && chkG ct x && decide (ct.nm.x.cats[f]? = some x) && noParams ps && LamX.lamSB ct.sc scope && chkE (ct.lamb scope) a body
    | _ => false
def chkF (ct : CT) : List E → List Expr → Bool
  | [], xs => xs.isEmpty
  | e :: es, xs => match xs with
    | .FormattedValue x (-1) none _ :: r => chkE ct e x && chkF ct es r
    | .Constant (.str z) _ _ :: r => isStrE e z && chkF ct es r
    | _ => false
def chkL (ct : CT) : List E → List Expr → Bool
  | [], xs => xs.isEmpty
  | .star e :: es, xs => match xs with
    | .Starred x _ :: r => chkE ct e x && chkL ct es r
    | _ => false
  | e :: es, xs => match xs with
    | x :: r => notStar x && chkE ct e x && chkL ct es r
    | [] => false
def chkO (ct : CT) : Option E → Option Expr → Bool
  | none, x => x.isNone
  | some e, x => match x with
    | some y => chkE ct e y
    | none => false
def chkB (ct : CT) : B → Expr → Bool
  | .val e, x => plainT x && chkE ct e x
  | .cmp op a b, e => match e with
    | .Compare l [o] [r] _ => decide (o = op) && notSet r && chkE ct a l && chkE ct b r
    | _ => false
  | .chain op op' a b c, e => match e with
    | .Compare l [o, o'] [r, r'] _ => decide (o = op) && decide (o' = op') && notSet r' && chkE ct a l && chkE ct b r && chkE ct c r'
    | _ => false
  | .not a, x => match x with
    | .UnaryOp .Not y _ => chkB ct a y
    | _ => false
  | .and a b, e => match e with
    | .BoolOp .And (x :: y :: rest) pos => chkB ct a x && chkB ct b (if rest.isEmpty then y else .BoolOp .And (y :: rest) pos)
    | _ => false
  | .or a b, e => match e with
    | .BoolOp .Or (x :: y :: rest) pos => chkB ct a x && chkB ct b (if rest.isEmpty then y else .BoolOp .Or (y :: rest) pos)
    | _ => false
def chkBs (ct : CT) : List B → List Expr → Bool
  | [], xs => xs.isEmpty
  | e :: es, xs => match xs with
    | x :: r => chkB ct e x && es.isEmpty && r.isEmpty
    | [] => false
def chkI (ct : CT) : I → Expr → Expr → Bool
  | .val e, _, x => chkE ct e x
  | .rng1 a, _, x => match x with
    | .Call (.Name n _) [y] [] _ => chkG ct n && decide (n = "range") && notStar y && chkE ct a y
    | _ => false
  | .rng2 a b, _, x => match x with
    | .Call (.Name n _) [y, z] [] _ => chkG ct n && decide (n = "range") && notStar y && notStar z && chkE ct a y && chkE ct b z
    | _ => false
  | .zip a b, t, x => match x with
    | .Call (.Name n _) [y, z] [] _ => isTup t && chkG ct n && decide (n = "zip") && notStar y && notStar z && chkE ct a y && chkE ct b z
    | _ => false
  | .enum a, t, x => match x with
    | .Call (.Name n _) [y] [] _ => isTup t && chkG ct n && decide (n = "enumerate") && notStar y && chkE ct a y
    | _ => false
end
end Sg
/-! Sg4: the operations upon data are the machine's. -/
namespace Sg
open PySem L2

section
variable {B : Bk} {F : Hp} {m : List Addr}
theorem RepL.take : ∀ (n : Nat) {ds : List D} {vs : List V}, RepL B F m ds vs → RepL B F m (ds.take n) (vs.take n)
  | 0, _, _, _ => rfl
  | n + 1, [], _, h => by
    have h : _ = [] := h
    subst h
    exact rfl
  | n + 1, d :: r, _, h => by
    obtain ⟨v, us, rfl, h1, h2⟩ := h
    exact ⟨v, us.take n, rfl, h1, RepL.take n h2⟩
theorem RepL.drop : ∀ (n : Nat) {ds : List D} {vs : List V}, RepL B F m ds vs → RepL B F m (ds.drop n) (vs.drop n)
  | 0, _, _, h => h
  | n + 1, [], _, h => by
    have h : _ = [] := h
    subst h
    exact rfl
  | n + 1, d :: r, _, h => by
    obtain ⟨v, us, rfl, h1, h2⟩ := h
    exact RepL.drop n h2
theorem RepL.cutD {ds : List D} {vs : List V} (h : RepL B F m ds vs) (lo hi : Option Int) : RepL B F m (Sg.cutD ds lo hi) (cutV vs lo hi) := by
  unfold Sg.cutD cutV
  rw [h.length]
  exact RepL.take _ (RepL.drop _ h)
theorem RepL.times {ds : List D} {vs : List V} (h : RepL B F m ds vs) : ∀ n : Nat, RepL B F m (List.replicate n ds).flatten (List.replicate n vs).flatten
  | 0 => rfl
  | n + 1 => by
    rw [List.replicate_succ, List.replicate_succ, List.flatten_cons, List.flatten_cons]
    exact RepL.append h (RepL.times h n)
theorem RepL.atI {ds : List D} {vs : List V} (h : RepL B F m ds vs) {i : Int} {d : D} (e : L2.atI ds i = some d) : ∃ v, L2.atI vs i = some v ∧ Rep B F m d v := by
  unfold L2.atI at e ⊢
  rw [← h.length]
  cases q : ixN ds.length i with
  | none =>
    rw [q] at e
    cases e
  | some j =>
    rw [q] at e
    exact h.get j d e
theorem RepL.strs : ∀ {ds : List D} {vs : List V} {ys : List Str}, RepL B F m ds vs → strs? ds = some ys → vs = ys.map V.str
  | [], _, _, h, e => by
    have h : _ = [] := h
    have e := Option.some.inj e
    subst h e
    rfl
  | .str x :: r, _, ys, h, e => by
    obtain ⟨v, us, rfl, h1, h2⟩ := h
    have h1 : v = .str x := h1
    have e : (strs? r).map (x :: ·) = some ys := e
    cases q : strs? r with
    | none =>
      rw [q] at e
      cases e
    | some zs =>
      rw [q] at e
      have e := Option.some.inj e
      subst e h1
      rw [RepL.strs h2 q]
      rfl
  | .non :: _, _, _, _, e => by cases e
  | .bl _ :: _, _, _, _, e => by cases e
  | .int _ :: _, _, _, _, e => by cases e
  | .tup _ :: _, _, _, _, e => by cases e
  | .lst _ :: _, _, _, _, e => by cases e
  | .rol _ :: _, _, _, _, e => by cases e
  | .dic _ _ :: _, _, _, _, e => by cases e
  | .ins _ _ :: _, _, _, _, e => by cases e
  | .ref _ :: _, _, _, _, e => by cases e
  | .cls _ :: _, _, _, _, e => by cases e
theorem RepL.bls : ∀ {ds : List D} {vs : List V} {ys : List Bool}, RepL B F m ds vs → bls? ds = some ys → vs = ys.map V.bl
  | [], _, _, h, e => by
    have h : _ = [] := h
    have e := Option.some.inj e
    subst h e
    rfl
  | .bl x :: r, _, ys, h, e => by
    obtain ⟨v, us, rfl, h1, h2⟩ := h
    have h1 : v = .bl x := h1
    have e : (bls? r).map (x :: ·) = some ys := e
    cases q : bls? r with
    | none =>
      rw [q] at e
      cases e
    | some zs =>
      rw [q] at e
      have e := Option.some.inj e
      subst e h1
      rw [RepL.bls h2 q]
      rfl
  | .non :: _, _, _, _, e => by cases e
  | .str _ :: _, _, _, _, e => by cases e
  | .int _ :: _, _, _, _, e => by cases e
  | .tup _ :: _, _, _, _, e => by cases e
  | .lst _ :: _, _, _, _, e => by cases e
  | .rol _ :: _, _, _, _, e => by cases e
  | .dic _ _ :: _, _, _, _, e => by cases e
  | .ins _ _ :: _, _, _, _, e => by cases e
  | .ref _ :: _, _, _, _, e => by cases e
  | .cls _ :: _, _, _, _, e => by cases e
theorem RepL.ints : ∀ {ds : List D} {vs : List V} {ys : List Int}, RepL B F m ds vs → ints? ds = some ys → vs = ys.map V.int
  | [], _, _, h, e => by
    have h : _ = [] := h
    have e := Option.some.inj e
    subst h e
    rfl
  | d :: r, _, ys, h, e => by
    obtain ⟨v, us, rfl, h1, h2⟩ := h
    cases d with
    | int x =>
      have h1 : v = .int x := h1
      have e : (ints? r).map (x :: ·) = some ys := e
      cases q : ints? r with
      | none =>
        rw [q] at e
        cases e
      | some zs =>
        rw [q] at e
        have e := Option.some.inj e
        subst e h1
        rw [RepL.ints h2 q]
        rfl
    | _ => cases e
theorem RepL.ofInts : ∀ ns : List Int, RepL B F m (ns.map D.int) (ns.map V.int)
  | [] => rfl
  | n :: r => ⟨.int n, r.map V.int, rfl, rfl, RepL.ofInts r⟩
theorem RepL.ofKeys : ∀ ks : List Key, RepL B F m (ks.map kD) (ks.map kV)
  | [] => rfl
  | .inl i :: r => ⟨.int i, r.map kV, rfl, rfl, RepL.ofKeys r⟩
  | .inr x :: r => ⟨.str x, r.map kV, rfl, rfl, RepL.ofKeys r⟩
theorem keyD_ok {d : D} {k : Key} {v : V} (e : keyD d = some k) (h : Rep B F m d v) : v = kV k := by
  cases d with
  | int i =>
    have e := Option.some.inj e
    subst e
    exact h
  | str x =>
    have e := Option.some.inj e
    subst e
    exact h
  | _ => cases e
/-- a dict's value -/
theorem dAt_ok : ∀ {ks : List Key} {xs : List D} {vs : List V}, ks.length = vs.length → RepL B F m xs vs → ∀ k, match dAt ks xs k with
    | some d => ∃ v, valV (ks.zip vs) k = some v ∧ Rep B F m d v
    | none => valV (ks.zip vs) k = none
  | [], _, _, _, _, k => rfl
  | _ :: _, [], vs, hl, h, k => by
    have h : vs = [] := h
    subst h
    cases hl
  | y :: ks, d :: xs, _, hl, h, k => by
    obtain ⟨v, us, rfl, h1, h2⟩ := h
    have hl : ks.length = us.length := by simpa using hl
    by_cases q : y = k
    · have e1 : dAt (y :: ks) (d :: xs) k = some d := by simp [dAt, List.find?_cons, q]
      rw [e1]
      exact ⟨v, valV_pos (p := (y, v)) q, h1⟩
    · have e1 : dAt (y :: ks) (d :: xs) k = dAt ks xs k := by simp [dAt, List.find?_cons, q]
      have e2 : valV ((y :: ks).zip (v :: us)) k = valV (ks.zip us) k := valV_neg (p := (y, v)) q
      rw [e1, e2]
      exact dAt_ok hl h2 k
end

mutual
theorem Rep.dp {B : Bk} {F : Hp} {m : List Addr} {H : Hp} (s : Same F H) : ∀ (d : D) (v : V) (p : PyData), Rep B F m d v → d.py = some p → Dp B.K H v p
  | .non, _, _, h, e => by
    have h : _ = V.non := h
    have e := Option.some.inj e
    subst h e
    exact .non
  | .bl b, _, _, h, e => by
    have h : _ = V.bl b := h
    have e := Option.some.inj e
    subst h e
    exact .bl b
  | .int i, _, _, h, e => by
    have h : _ = V.int i := h
    have e := Option.some.inj e
    subst h e
    exact .int i
  | .str x, _, _, h, e => by
    have h : _ = V.str x := h
    have e := Option.some.inj e
    subst h e
    exact .str x
  | .tup xs, _, p, h, e => by
    obtain ⟨a, vs, rfl, hs, r⟩ := h
    have e : (D.pyL xs).map PyData.tuple = some p := e
    cases q : D.pyL xs with
    | none =>
      rw [q] at e
      cases e
    | some ps =>
      rw [q] at e
      have e := Option.some.inj e
      subst e
      exact .tup (seqT_mono s hs) (Rep.dpL s xs vs ps r q)
  | .lst xs, _, p, h, e => by
    obtain ⟨a, vs, rfl, hs, r⟩ := h
    have e : (D.pyL xs).map PyData.list = some p := e
    cases q : D.pyL xs with
    | none =>
      rw [q] at e
      cases e
    | some ps =>
      rw [q] at e
      have e := Option.some.inj e
      subst e
      exact .lst (SqL.of (s _ _ hs)) (Rep.dpL s xs vs ps r q)
  | .rol _, _, _, _, e => by cases e
  | .dic _ _, _, _, _, e => by cases e
  | .ins _ _, _, _, _, e => by cases e
  | .cls _, _, _, _, e => by cases e
  | .ref _, _, _, _, e => by cases e
theorem Rep.dpL {B : Bk} {F : Hp} {m : List Addr} {H : Hp} (s : Same F H) : ∀ (ds : List D) (vs : List V) (ps : List PyData), RepL B F m ds vs → D.pyL ds = some ps → DpAll B.K H vs ps
  | [], _, _, h, e => by
    have h : _ = [] := h
    have e := Option.some.inj e
    subst h e
    exact .nil
  | d :: r, _, ps, h, e => by
    obtain ⟨v, us, rfl, h1, h2⟩ := h
    have e : (match D.py d, D.pyL r with
      | some x, some y => some (x :: y)
      | _, _ => none) = some ps := e
    cases q1 : D.py d with
    | none =>
      rw [q1] at e
      cases e
    | some x =>
      cases q2 : D.pyL r with
      | none =>
        rw [q1, q2] at e
        cases e
      | some y =>
        rw [q1, q2] at e
        have e := Option.some.inj e
        subst e
        exact .cons (Rep.dp s d v x h1 q1) (Rep.dpL s r us y h2 q2)
end

theorem Seen.dp {B : Bk} {F : Hp} {m : List Addr} {H : Hp} (s : Same F H) {d : D} {v : V} {p : PyData} (h : Seen B F m H d v) (e : d.py = some p) : Dp B.K H v p := by
  cases d with
  | lst xs =>
    obtain ⟨a, vs, rfl, hs, r⟩ := h
    have e : (D.pyL xs).map PyData.list = some p := e
    cases q : D.pyL xs with
    | none =>
      rw [q] at e
      cases e
    | some ps =>
      rw [q] at e
      have e := Option.some.inj e
      subst e
      exact .lst (SqL.of hs) (Rep.dpL s xs vs ps r q)
  | dic ks xs => cases e
  | _ => exact Rep.dp s _ _ _ h e

/-! ### what an operation leaves -/
section
variable {g : Gx} {ct : CT} {W : WX} {X : Cx} {R F : Hp} {m : List Addr} {μ : Store} {H : Hp} {Q : VK}
abbrev Aft (g : Gx) (R F : Hp) (m : List Addr) (μ : Store) (z : D) (Q : VK) : Prop := ∀ F' m' H', Grow F m F' m' → SOk g.B R F' m' μ H' → ∀ v, Rep g.B F' m' z v → Q v H'
theorem Aft.here {z : D} {v : V} (q : Aft g R F m μ z Q) (so : SOk g.B R F m μ H) (r : Rep g.B F m z v) : Q v H := q F m H (Grow.refl F m) so v r
theorem Aft.lst {ds : List D} {vs : List V} (q : Aft g R F m μ (.lst ds) Q) (so : SOk g.B R F m μ H) (r : RepL g.B F m ds vs) : ∀ p, H p = none → Q (.ref p) (upd H p (.lst vs)) := fun p hp => by
  obtain ⟨gr, so'⟩ := so.new (o := .lst vs) hp
  exact q _ m _ gr so' _ ⟨p, vs, rfl, upd_same, RepL.mono gr _ _ r⟩
theorem Aft.tup {ds : List D} {vs : List V} (q : Aft g R F m μ (.tup ds) Q) (so : SOk g.B R F m μ H) (r : RepL g.B F m ds vs) : ∀ p, H p = none → Q (.ref p) (upd H p (.tup vs)) := fun p hp => by
  obtain ⟨gr, so'⟩ := so.new (o := .tup vs) hp
  exact q _ m _ gr so' _ ⟨p, vs, rfl, .inl (.inl upd_same), RepL.mono gr _ _ r⟩

theorem pow_ok {X : Cx} {i j : Int} {H : Hp} {Q : VK} (hp : powOk i j = true) (q : Q (.int (i ^ j.toNat)) H) : SB X (binaryOp .Pow) (.int i) (.int j) H Q := fun pins s σ v u I rx ry => by
  obtain ⟨t, rfl⟩ := rx
  obtain ⟨t', rfl⟩ := ry
  obtain ⟨h1, h2⟩ := of_decide_eq_true hp
  exact PyProof.Rows.pow_int h1 h2 ⟨.int _, H, I.tok _, ⟨_, rfl⟩, q⟩

theorem divOk_of {j : Int} (h : divOk j = true) : 0 < j ∧ j.natAbs.log2 < 9000 := of_decide_eq_true h
theorem bin_ok (cx : CxOk g ct W X) : ∀ {op : Operator} {x y z : D} {v u : V}, binD op x y = some z → SOk g.B R F m μ H → Seen g.B F m H x v → Seen g.B F m H y u → Aft g R F m μ z Q → SB X (binaryOp op) v u H Q := by
  intro op x y z v u h so rx ry q
  unfold binD at h
  split at h
  · have h := Option.some.inj h
    have rx : v = _ := rx
    have ry : u = _ := ry
    subst h rx ry
    exact SB.of op_add ⟨_, _, rfl, rfl, q.here so rfl⟩
  · split at h
    · rename_i hl
      have h := Option.some.inj h
      have rx : v = _ := rx
      have ry : u = _ := ry
      subst h rx ry
      exact SB.of op_add_str ⟨_, _, rfl, rfl, hl, q.here so rfl⟩
    · cases h
  · split at h
    · rename_i hl
      have h := Option.some.inj h
      subst h
      obtain ⟨a, vs, rfl, ha, ra⟩ := rx
      obtain ⟨b, us, rfl, hb, rb⟩ := ry
      exact SB.of op_cat ⟨a, b, vs, us, rfl, rfl, ha, hb, by rw [← ra.length, ← rb.length]; exact hl, q.lst so (ra.append rb)⟩
    · cases h
  · split at h
    · rename_i hl
      have h := Option.some.inj h
      subst h
      obtain ⟨a, vs, rfl, ha, ra⟩ := rx
      obtain ⟨b, us, rfl, hb, rb⟩ := ry
      refine SB.of op_catA ⟨a, b, vs, us, rfl, rfl, cx.K ▸ seqT_mono so.sub ha, cx.K ▸ seqT_mono so.sub hb, by rw [← ra.length, ← rb.length]; exact hl, fun e => ?_, fun _ e => ?_, fun _ _ => q.tup so (ra.append rb)⟩
      · subst e
        have e' : _ = [] := List.length_eq_zero_iff.mp ra.length
        subst e'
        exact q.here so ⟨b, us, rfl, hb, rb⟩
      · subst e
        have e' : _ = [] := List.length_eq_zero_iff.mp rb.length
        subst e'
        rw [List.append_nil] at q
        exact q.here so ⟨a, vs, rfl, ha, ra⟩
    · cases h
  · have h := Option.some.inj h
    have rx : v = _ := rx
    have ry : u = _ := ry
    subst h rx ry
    exact SB.of op_sub ⟨_, _, rfl, rfl, q.here so rfl⟩
  · split at h
    · rename_i hl
      have h := Option.some.inj h
      have rx : v = _ := rx
      have ry : u = _ := ry
      subst h rx ry
      rcases of_decide_eq_true hl with hl | hl | hl
      · exact SB.of op_mul ⟨_, _, rfl, rfl, .inl hl, q.here so rfl⟩
      · exact SB.of op_mul ⟨_, _, rfl, rfl, .inr hl, q.here so rfl⟩
      · exact SB.of op_mulW ⟨_, _, rfl, rfl, hl, q.here so rfl⟩
    · cases h
  · split at h
    · rename_i hl
      have h := Option.some.inj h
      have ry : u = _ := ry
      subst h ry
      obtain ⟨a, vs, rfl, ha, ra⟩ := rx
      exact SB.of op_rep ⟨a, _, vs, rfl, rfl, ha, hl.1, hl.2.1, by rw [← ra.length]; exact hl.2.2, q.lst so (ra.times _)⟩
    · cases h
  · split at h
    · rename_i hl
      have h := Option.some.inj h
      have rx : v = _ := rx
      have ry : u = _ := ry
      subst h rx ry
      exact SB.of op_fdivW ⟨_, _, rfl, rfl, divOk_of hl, q.here so rfl⟩
    · cases h
  · split at h
    · rename_i hl
      have h := Option.some.inj h
      have rx : v = _ := rx
      have ry : u = _ := ry
      subst h rx ry
      exact SB.of op_mod ⟨_, _, rfl, rfl, hl, q.here so rfl⟩
    · cases h
  · split at h
    · rename_i hl
      have h := Option.some.inj h
      have rx : v = _ := rx
      have ry : u = _ := ry
      subst h rx ry
      exact pow_ok hl (q.here so rfl)
    · cases h
  · cases h

theorem eq_ok (cx : CxOk g ct W X) {x y : D} {k : Bool} {v u : V} (h : eqD x y = some k) (so : SOk g.B R F m μ H) (rx : Seen g.B F m H x v) (ry : Seen g.B F m H y u) :
    (∃ a b, Dp X.K H v a ∧ Dp X.K H u b ∧ SeqAt.shaped a = true ∧ SeqAt.shaped b = true ∧ PyData.eqv a b = k) ∨
    (k = false ∧ ∃ a b kvs xs, v = .ref a ∧ u = .ref b ∧ H a = some (.dK kvs) ∧ SqT X.K H b xs) := by
  unfold eqD at h
  split at h
  · rename_i a b h1 h2
    split at h
    · rename_i hs
      rw [Bool.and_eq_true] at hs
      exact .inl ⟨a, b, cx.K ▸ rx.dp so.sub h1, cx.K ▸ ry.dp so.sub h2, hs.1, hs.2, Option.some.inj h⟩
    · cases h
  · split at h
    · rename_i hd
      unfold isDT at hd
      split at hd
      · obtain ⟨a, vs, rfl, ha, hl, r⟩ := rx
        obtain ⟨b, ws, rfl, hs, r'⟩ := ry
        exact .inr ⟨(Option.some.inj h).symm, a, b, _, ws, rfl, rfl, ha, cx.K ▸ seqT_mono so.sub hs⟩
      · cases hd
    · cases h

theorem in_ok (cx : CxOk g ct W X) {x : D} {ys : List D} {k : Bool} {v u : V} (h : inD x ys = some k) (so : SOk g.B R F m μ H) (rx : Seen g.B F m H x v) (ry : Seen g.B F m H (.lst ys) u) :
    ∃ a bs, Dp X.K H v a ∧ Dp X.K H u (.list bs) ∧ SeqAt.shaped a = true ∧ SeqAt.shaped (.list bs) = true ∧ (bs.any fun z => PyData.eqv z a) = k := by
  unfold inD at h
  split at h
  · rename_i a bs h1 h2
    split at h
    · rename_i hs
      rw [Bool.and_eq_true] at hs
      have h3 : (D.lst ys).py = some (.list bs) := by
        simp only [D.py]
        rw [h2]
        rfl
      exact ⟨a, bs, cx.K ▸ rx.dp so.sub h1, cx.K ▸ ry.dp so.sub h3, hs.1, hs.2, Option.some.inj h⟩
    · cases h
  · cases h
theorem flat_ok {B : Bk} {F : Hp} {m : List Addr} {d : D} {v w : V} (h : flatD d = some v) (r : Rep B F m d w) : w = v ∧ flatV v = true := by
  cases d with
  | non =>
    cases h
    exact ⟨r, rfl⟩
  | bl b =>
    cases h
    exact ⟨r, rfl⟩
  | int i =>
    cases h
    exact ⟨r, rfl⟩
  | str x =>
    cases h
    exact ⟨r, rfl⟩
  | _ => cases h
theorem flatL_ok {B : Bk} {F : Hp} {m : List Addr} : ∀ {ds : List D} {vs ws : List V}, flatL ds = some vs → RepL B F m ds ws → ws = vs ∧ vs.all flatV = true
  | [], vs, ws, h, r => by
    cases h
    exact ⟨r, rfl⟩
  | d :: ds, vs, ws, h, r => by
    obtain ⟨w, us, rfl, r1, r2⟩ := r
    simp only [flatL] at h
    cases e1 : flatD d with
    | none =>
      rw [e1] at h
      cases h
    | some v =>
      cases e2 : flatL ds with
      | none =>
        rw [e1, e2] at h
        cases h
      | some vs' =>
        rw [e1, e2] at h
        cases h
        obtain ⟨rfl, f1⟩ := flat_ok e1 r1
        obtain ⟨rfl, f2⟩ := flatL_ok e2 r2
        exact ⟨rfl, by rw [List.all_cons, f1, f2]; rfl⟩
theorem inF_ok (cx : CxOk g ct W X) {x : D} {ys : List D} {k : Bool} {v u : V} (h : inF x ys = some k) (so : SOk g.B R F m μ H) (rx : Seen g.B F m H x v) (ry : Seen g.B F m H (.tup ys) u) :
    ∃ p xs, u = .ref p ∧ SqT X.K H p xs ∧ flatV v = true ∧ xs.all flatV = true ∧ inV v xs = k := by
  unfold inF at h
  cases e1 : flatD x with
  | none =>
    rw [e1] at h
    cases h
  | some v' =>
    cases e2 : flatL ys with
    | none =>
      rw [e1, e2] at h
      cases h
    | some vs =>
      rw [e1, e2] at h
      cases h
      have rx' : Rep g.B F m x v := by
        cases x with
        | lst _ => cases e1
        | dic _ _ => cases e1
        | _ => exact rx
      obtain ⟨rfl, f1⟩ := flat_ok e1 rx'
      obtain ⟨a, ws, rfl, hs, r⟩ := ry
      obtain ⟨rfl, f2⟩ := flatL_ok e2 r
      exact ⟨a, _, rfl, cx.K ▸ seqT_mono so.sub hs, f1, f2, rfl⟩
def rInT (K : PySem.W.Frag) : R2 := fun x y H Q => ∃ d ds, Dp K H x d ∧ Dp K H y (.tuple ds) ∧ SeqAt.shaped d = true ∧ SeqAt.shaped (.tuple ds) = true ∧ Q (.bl (ds.any fun z => PyData.eqv z d)) H
def rNotInT (K : PySem.W.Frag) : R2 := fun x y H Q => ∃ d ds, Dp K H x d ∧ Dp K H y (.tuple ds) ∧ SeqAt.shaped d = true ∧ SeqAt.shaped (.tuple ds) = true ∧ Q (.bl (!ds.any fun z => PyData.eqv z d)) H
theorem op_inT {X : Cx} (hu : X.A.units + 65 < cLine) : OpR X (compareOp .In) (rInT X.K) := by
  intro pins s σ H x y v u Q I rx ry h
  obtain ⟨d, ds, hd, he, sd, se, q⟩ := h
  obtain ⟨as, r1⟩ := Dp.reads I d x v hd rx
  obtain ⟨bs, r2⟩ := Dp.reads I (.tuple ds) y u he ry
  exact SeqAt.in_tuple_reads r2 r1 (SeqAt.canLay_of_shaped se) (SeqAt.canLay_of_shaped sd) (PyProof.Rows.room_in_shaped sd hu) ⟨.bl _, H, I, rfl, q⟩
theorem op_notInT {X : Cx} (hu : X.A.units + 65 < cLine) : OpR X (compareOp .NotIn) (rNotInT X.K) := by
  intro pins s σ H x y v u Q I rx ry h
  obtain ⟨d, ds, hd, he, sd, se, q⟩ := h
  obtain ⟨as, r1⟩ := Dp.reads I d x v hd rx
  obtain ⟨bs, r2⟩ := Dp.reads I (.tuple ds) y u he ry
  exact SeqAt.notIn_tuple_reads r2 r1 (SeqAt.canLay_of_shaped se) (SeqAt.canLay_of_shaped sd) (PyProof.Rows.room_in_shaped sd hu) ⟨.bl _, H, I, rfl, q⟩
theorem inT_ok (cx : CxOk g ct W X) {x : D} {ys : List D} {k : Bool} {v u : V} (h : inT x ys = some k) (so : SOk g.B R F m μ H) (rx : Seen g.B F m H x v) (ry : Seen g.B F m H (.tup ys) u) :
    (∃ p xs, u = .ref p ∧ SqT X.K H p xs ∧ flatV v = true ∧ xs.all flatV = true ∧ inV v xs = k) ∨
    (∃ a bs, Dp X.K H v a ∧ Dp X.K H u (.tuple bs) ∧ SeqAt.shaped a = true ∧ SeqAt.shaped (.tuple bs) = true ∧ (bs.any fun z => PyData.eqv z a) = k) := by
  unfold inT at h
  split at h
  · rename_i b hb
    cases h
    exact .inl (inF_ok cx hb so rx ry)
  · split at h
    · rename_i a bs h1 h2
      split at h
      · rename_i hs
        rw [Bool.and_eq_true] at hs
        have h3 : (D.tup ys).py = some (.tuple bs) := by
          simp only [D.py]
          rw [h2]
          rfl
        exact .inr ⟨a, bs, cx.K ▸ rx.dp so.sub h1, cx.K ▸ ry.dp so.sub h3, hs.1, hs.2, Option.some.inj h⟩
      · cases h
    · cases h
theorem isN_ok {x : D} {b : Bool} {v : V} (h : isN x = some b) (r : Seen g.B F m H x v) : decide (v = V.non) = b := by
  cases x with
  | non =>
    have r : v = _ := r
    have h := Option.some.inj h
    subst r h
    rfl
  | ref k => cases h
  | bl c =>
    have r : v = _ := r
    have h := Option.some.inj h
    subst r h
    rfl
  | int c =>
    have r : v = _ := r
    have h := Option.some.inj h
    subst r h
    rfl
  | str c =>
    have r : v = _ := r
    have h := Option.some.inj h
    subst r h
    rfl
  | tup xs =>
    obtain ⟨a, vs, rfl, _⟩ := r
    have h := Option.some.inj h
    subst h
    rfl
  | lst xs =>
    obtain ⟨a, vs, rfl, _⟩ := r
    have h := Option.some.inj h
    subst h
    rfl
  | rol xs =>
    obtain ⟨a, vs, rfl, _⟩ := r
    have h := Option.some.inj h
    subst h
    rfl
  | dic ks xs =>
    obtain ⟨a, vs, rfl, _⟩ := r
    have h := Option.some.inj h
    subst h
    rfl
  | ins c xs =>
    obtain ⟨a, C, dx, ns, vs, rfl, _⟩ := r
    have h := Option.some.inj h
    subst h
    rfl
  | cls c =>
    obtain ⟨C, ns, _, rfl⟩ := r
    have h := Option.some.inj h
    subst h
    rfl
theorem cmp_ok (cx : CxOk g ct W X) : ∀ {op : CmpOp} {x y : D} {k : Bool} {v u : V}, cmpD op x y = some k → SOk g.B R F m μ H → Seen g.B F m H x v → Seen g.B F m H y u → Q (.bl k) H → SB X (compareOp op) v u H Q := by
  intro op x y k v u h so rx ry q
  unfold cmpD at h
  split at h
  · have h := Option.some.inj h
    have rx : v = _ := rx
    have ry : u = _ := ry
    subst h rx ry
    exact SB.of op_lt ⟨_, _, rfl, rfl, q⟩
  · have h := Option.some.inj h
    have rx : v = _ := rx
    have ry : u = _ := ry
    subst h rx ry
    exact SB.of op_le ⟨_, _, rfl, rfl, q⟩
  · have h := Option.some.inj h
    have rx : v = _ := rx
    have ry : u = _ := ry
    subst h rx ry
    exact SB.of op_gt ⟨_, _, rfl, rfl, q⟩
  · have h := Option.some.inj h
    have rx : v = _ := rx
    have ry : u = _ := ry
    subst h rx ry
    exact SB.of op_ge ⟨_, _, rfl, rfl, q⟩
  · have h := Option.some.inj h
    have rx : v = _ := rx
    have ry : u = _ := ry
    subst h rx ry
    exact SB.of op_le_str ⟨_, _, rfl, rfl, q⟩
  · rename_i a b
    have rx : v = _ := rx
    have ry : u = _ := ry
    subst rx ry
    cases e : sign? a with
    | none =>
      rw [e] at h
      cases h
    | some c =>
      rw [e] at h
      have h := Option.some.inj h
      subst h
      have ea : a = ⟨#[c]⟩ := by
        unfold sign? at e
        split at e
        · rename_i c' hc
          have e := Option.some.inj e
          subst e
          obtain ⟨⟨l⟩⟩ := a
          have hc : l = [c'] := hc
          subst hc
          rfl
        · cases e
      subst ea
      exact SB.of op_in_sign ⟨c, b, rfl, rfl, q⟩
  · rename_i ks xs
    obtain ⟨a, vs, rfl, ha, hl, r⟩ := ry
    cases e : keyD x with
    | none =>
      rw [e] at h
      cases h
    | some kk =>
      rw [e] at h
      have h := Option.some.inj h
      subst h
      have rv : v = kV kk := by
        cases x with
        | int i => exact keyD_ok (B := g.B) (F := F) (m := m) e rx
        | str z => exact keyD_ok (B := g.B) (F := F) (m := m) e rx
        | _ => cases e
      subst rv
      have hd := dAt_ok hl r kk
      have es : (valV (ks.zip vs) kk).isSome = (dAt ks xs kk).isSome := by
        cases e2 : dAt ks xs kk with
        | none =>
          rw [e2] at hd
          rw [show valV (ks.zip vs) kk = none from hd]
          rfl
        | some d =>
          rw [e2] at hd
          obtain ⟨w, hw, _⟩ := hd
          rw [hw]
          rfl
      intro pins s σ v' u' I rx ry
      cases (show u' = Value.ref a from ry)
      refine d_in (by have := cx.room.units; omega) I (DGet.k (k := kk) ha) rx fun s' I' => ⟨.bl (dAt ks xs kk).isSome, H, I', ?_, q⟩
      rw [es]
      exact rfl
  · obtain ⟨a, bs, d1, d2, s1, s2, e⟩ := in_ok cx h so rx ry
    subst e
    exact SB.of (op_inD (by have := cx.room.un; omega)) ⟨a, bs, d1, d2, s1, s2, q⟩
  · rcases inT_ok cx h so rx ry with ⟨p, xs, rfl, h1, h2, h3, rfl⟩ | ⟨a, bs, d1, d2, s1, s2, e⟩
    · exact SB.of op_in_seq ⟨p, xs, rfl, .inr h1, h2, h3, q⟩
    · subst e
      exact SB.of (op_inT (by have := cx.room.un; omega)) ⟨a, bs, d1, d2, s1, s2, q⟩
  · rename_i ys
    cases e0 : inD x ys with
    | none =>
      rw [e0] at h
      cases h
    | some k0 =>
      rw [e0] at h
      have h := Option.some.inj h
      subst h
      obtain ⟨a, bs, d1, d2, s1, s2, e⟩ := in_ok cx e0 so rx ry
      subst e
      exact SB.of (op_notInD (by have := cx.room.un; omega)) ⟨a, bs, d1, d2, s1, s2, q⟩
  · rename_i ys
    cases e0 : inT x ys with
    | none =>
      rw [e0] at h
      cases h
    | some k0 =>
      rw [e0] at h
      have h := Option.some.inj h
      subst h
      rcases inT_ok cx e0 so rx ry with ⟨p, xs, rfl, h1, h2, h3, rfl⟩ | ⟨a, bs, d1, d2, s1, s2, e⟩
      · exact SB.of op_notIn_seq ⟨p, xs, rfl, .inr h1, h2, h3, q⟩
      · subst e
        exact SB.of (op_notInT (by have := cx.room.un; omega)) ⟨a, bs, d1, d2, s1, s2, q⟩
  · have ry : u = _ := ry
    subst ry
    cases e : isN x with
    | none =>
      rw [e] at h
      cases h
    | some b =>
      rw [e] at h
      have h := Option.some.inj h
      subst h
      refine SB.of op_isN ⟨rfl, ?_⟩
      rw [isN_ok e rx]
      exact q
  · have ry : u = _ := ry
    subst ry
    cases e : isN x with
    | none =>
      rw [e] at h
      cases h
    | some b =>
      rw [e] at h
      have h := Option.some.inj h
      subst h
      refine SB.of op_notN ⟨rfl, ?_⟩
      rw [isN_ok e rx]
      exact q
  · have h := Option.some.inj h
    have rx : v = _ := rx
    have ry : u = _ := ry
    subst h rx ry
    refine SB.of op_isBl ⟨_, _, rfl, rfl, ?_⟩
    rename_i a b
    have e : (a == b) = decide (a = b) := by cases a <;> cases b <;> rfl
    rw [← e]
    exact q
  · rcases eq_ok cx h so rx ry with ⟨a, b, d1, d2, s1, s2, e⟩ | ⟨e, a, b, kvs, xs, e1, e2, e3, e4⟩
    · subst e
      exact SB.of (op_eqD cx.room.units) ⟨a, b, d1, d2, s1, s2, q⟩
    · subst e
      exact SB.of (op_eqDT (by have := cx.room.units; omega)) ⟨a, b, kvs, xs, e1, e2, e3, e4, q⟩
  · cases e : eqD x y with
    | none =>
      rw [e] at h
      cases h
    | some c =>
      rw [e] at h
      have h := Option.some.inj h
      subst h
      rcases eq_ok cx e so rx ry with ⟨a, b, d1, d2, s1, s2, e⟩ | ⟨e, a, b, kvs, xs, e1, e2, e3, e4⟩
      · subst e
        exact SB.of (op_neD cx.room.units) ⟨a, b, d1, d2, s1, s2, q⟩
      · subst e
        exact SB.of (op_neDT (by have := cx.room.units; omega)) ⟨a, b, kvs, xs, e1, e2, e3, e4, q⟩
  · cases h

theorem RepL.emp {B : Bk} {F : Hp} {m : List Addr} : ∀ {ds : List D} {vs : List V}, RepL B F m ds vs → ds.isEmpty = vs.isEmpty
  | [], _, h => by
    have h : _ = [] := h
    rw [h]
    rfl
  | _ :: _, _, h => by
    obtain ⟨_, _, rfl, _⟩ := h
    rfl
theorem tru_ok (cx : CxOk g ct W X) (so : SOk g.B R F m μ H) {k : Bool} : ∀ {x : D} {v : V}, truD x = some k → Seen g.B F m H x v → TruV X.K v H k
  | .non, v, h, rx => by
    have rx : v = _ := rx
    subst rx
    exact (Option.some.inj h).symm
  | .bl b, v, h, rx => by
    have rx : v = _ := rx
    subst rx
    exact (Option.some.inj h).symm
  | .int i, v, h, rx => by
    have rx : v = _ := rx
    subst rx
    exact (Option.some.inj h).symm
  | .str z, v, h, rx => by
    have rx : v = _ := rx
    subst rx
    have h : (if z.length ≤ sizeLine then some (z.length != 0) else none) = some k := h
    by_cases hl : z.length ≤ sizeLine
    · rw [if_pos hl] at h
      refine ⟨hl, ?_⟩
      have h := Option.some.inj h
      rw [← h]
      by_cases hz : z.length = 0
      · rw [hz]
        rfl
      · have e1 : (z.length != 0) = true := bne_iff_ne.mpr hz
        have e2 : ((z.length : Int) != 0) = true := bne_iff_ne.mpr (by omega)
        rw [e1, e2]
    · rw [if_neg hl] at h
      cases h
  | .tup xs, v, h, rx => by
    obtain ⟨a, vs, rfl, hs, r⟩ := rx
    refine .inr (.inl ⟨vs, cx.K ▸ seqT_mono so.sub hs, ?_⟩)
    have h : some (!xs.isEmpty) = some k := h
    have h := Option.some.inj h
    rw [← h, r.emp]
  | .lst xs, v, h, rx => by
    obtain ⟨a, vs, rfl, hs, r⟩ := rx
    refine .inl ⟨vs, SqL.of hs, ?_⟩
    have h : some (!xs.isEmpty) = some k := h
    have h := Option.some.inj h
    rw [← h, r.emp]
  | .rol _, _, h, _ => by cases h
  | .dic _ _, _, h, _ => by cases h
  | .ins _ _, _, h, _ => by cases h
  | .cls _, _, h, _ => by cases h
  | .ref _, _, h, _ => by cases h

/-- a subscript by values -/
def SX (X : Cx) (value slice : Expr) : R2 := fun x y H Q => ∀ (pins : List (Addr × Obj)) (s : Shared) (σ : St) (v u : Value), L2.Inv X pins σ H s → RelV x v → RelV y u →
  wpAny (model X.prog X.w) X.A (PyProof.Rows.subscriptTail value slice v u) (EP X pins σ Q) X.xe s
theorem pe_sx {X : Cx} {a b : Expr} {ta tb : TE} {pos : Pos} (ha : PE X a ta) (hb : PE X b tb) : PE X (.Subscript a b pos) (tOp (SX X a b) ta tb) :=
  ⟨fun pins s σ H Q I h => PyProof.Rows.Subscript_ (L2.binT ha hb I h fun v u s2 x y H2 I2 rx ry q => q pins s2 σ v u I2 rx ry)⟩
theorem SX.of {X : Cx} {r : R2} {x y : V} {H : Hp} {Q : VK} {value slice : Expr} (hs : PlainIx slice) (h : IxR X r) (q : r x y H Q) : SX X value slice x y H Q := fun pins s σ v u I rx ry => h value slice pins s σ H x y v u Q I rx ry q (hs _ _)
theorem sx_dict (cx : CxOk g ct W X) {value slice : Expr} (hs : PlainIx slice) {a : Addr} {y v : V} (hd : DGet H a y (some v)) (q : Q v H) : SX X value slice (.ref a) y H Q := by
  intro pins s σ o i I ro ri
  cases (show o = Value.ref a from ro)
  have hT := dict_typeIs I hd
  have hg : wpAny (model X.prog X.w) X.A (getItem (.ref a) i) (EP X pins σ Q) X.xe s := d_getItem (by have := cx.room.units; omega) I hd ri fun w' s3 I3 rw' => ⟨v, H, I3, rw', q⟩
  have fin : wpAny (model X.prog X.w) X.A (subscripted slice false (.ref a) i) (fun r s3 => wpAny (model X.prog X.w) X.A (letTemporaryGo value (.ref a) r >>= fun _ => pure r) (EP X pins σ Q) X.xe s3) X.xe s := by
    rw [show subscripted slice false (.ref a) i = operate [.ref a, i] (getItem (.ref a) i) from hs _ _]
    exact wpAny_operating (wpAny_mono hg (fun r s3 h3 => wpAny_bind (wpAny_letTemporaryGo (wpAny_pure h3))) fun _ _ x => x)
  unfold PyProof.Rows.subscriptTail
  refine wpAny_bind ?_
  rw [getitemInPython_of_ne hT.not_modules]
  refine wpAny_bind (wpAny_specialOf (T := "dict") hT PySem.F.slot_dict_getitem.lookup ?_)
  first
    | exact wpAny_pure (wpAny_bind fin)
    | exact wpAny_bind (wpAny_pure (wpAny_bind fin))
    | exact wpAny_bind fin
theorem sub_ok (cx : CxOk g ct W X) {value slice : Expr} (hs : PlainIx slice) {o i z : D} {v u : V} (h : subD o i = some z) (so : SOk g.B R F m μ H) (ro : Seen g.B F m H o v) (ri : Seen g.B F m H i u) (q : ∀ w, Rep g.B F m z w → Q w H) : SX X value slice v u H Q := by
  unfold subD at h
  split at h
  · have ro : v = _ := ro
    have ri : u = _ := ri
    subst ro ri
    rename_i zz n
    split at h
    · rename_i hl
      cases e : atI zz.cps.toList n with
      | none =>
        rw [e] at h
        cases h
      | some c =>
        rw [e] at h
        have h := Option.some.inj h
        subst h
        exact SX.of hs ix_str ⟨zz, n, c, rfl, rfl, hl, e, q _ rfl⟩
    · cases h
  · have ri : u = _ := ri
    subst ri
    obtain ⟨a, vs, rfl, h0, r⟩ := ro
    obtain ⟨w, h1, h2⟩ := r.atI h
    exact SX.of hs ix_tup ⟨a, vs, _, w, rfl, rfl, cx.K ▸ seqT_mono so.sub h0, h1, q w h2⟩
  · have ri : u = _ := ri
    subst ri
    obtain ⟨a, vs, rfl, h0, r⟩ := ro
    obtain ⟨w, h1, h2⟩ := r.atI h
    exact SX.of hs ix_list ⟨a, vs, _, w, rfl, rfl, SqL.of h0, h1, q w h2⟩
  · have ri : u = _ := ri
    subst ri
    obtain ⟨a, vs, rfl, h0, r⟩ := ro
    obtain ⟨w, h1, h2⟩ := r.atI h
    exact SX.of hs ix_list ⟨a, vs, _, w, rfl, rfl, cx.K ▸ so.sub.seq h0, h1, q w h2⟩
  · rename_i ks xs
    obtain ⟨a, vs, rfl, ha, hl, r⟩ := ro
    cases e : keyD i with
    | none =>
      rw [e] at h
      cases h
    | some kk =>
      rw [e] at h
      have h : dAt ks xs kk = some z := h
      have rv : u = kV kk := by
        cases i with
        | int i => exact keyD_ok (B := g.B) (F := F) (m := m) e ri
        | str z => exact keyD_ok (B := g.B) (F := F) (m := m) e ri
        | _ => cases e
      subst rv
      have hd := dAt_ok hl r kk
      rw [h] at hd
      obtain ⟨w, hw, rw'⟩ := hd
      exact sx_dict cx hs (by rw [← hw]; exact DGet.k (k := kk) ha) (q w rw')
  · cases h
end
end Sg
/-! Sg5: built-in functions, methods, calls of defs; an expression that passes the checker does what the evaluator says. -/
namespace Sg
open PySem L2

section
variable {g : Gx} {ct : CT} {W : WX} {X : Cx} {R F : Hp} {m : List Addr} {μ : Store} {H : Hp} {Q : VK} {b : Blt} {ds : List D}

def Blt.val : Blt → Value
  | .len => .builtin "len"
  | .abs => .builtin "abs"
  | .int => .type "int"
  | .max2 => .builtin "max"
  | .min2 => .builtin "min"
  | .all => .builtin "all"
  | .repr => .builtin "repr"
  | .any => .builtin "any"
  | .sum => .builtin "sum"
  | .sorted => .builtin "sorted"
  | .tuple => .type "tuple"
  | .list => .type "list"
theorem Blt.boot (b : Blt) : bootBuiltins b.nm = some b.val := by cases b <;> decide +kernel
theorem Blt.mem (b : Blt) : b.nm ∈ bltNames := by cases b <;> decide +kernel
theorem Blt.nn (b : Blt) : b.nm ≠ "__name__" := by cases b <;> decide +kernel

/-- values that may be looked at -/
def SeenL (B : Bk) (F : Hp) (m : List Addr) (H : Hp) : List D → List V → Prop
  | [], vs => vs = []
  | d :: r, vs => ∃ v us, vs = v :: us ∧ Seen B F m H d v ∧ SeenL B F m H r us
theorem lookL_ok {B : Bk} {R F : Hp} {m : List Addr} {μ : Store} {H : Hp} (so : SOk B R F m μ H) : ∀ {ds : List D} {vs : List V}, RepL B F m ds vs → SeenL B F m H (ds.map (look μ)) vs
  | [], _, h => h
  | d :: r, _, h => by
    obtain ⟨v, us, e, h1, h2⟩ := h
    exact ⟨v, us, e, look_ok so h1, lookL_ok so h2⟩
theorem insI_perm (i : Int) : ∀ l : List Int, (insI i l).Perm (i :: l)
  | [] => List.Perm.refl _
  | j :: r => by
    unfold insI
    split
    · exact List.Perm.refl _
    · exact ((insI_perm i r).cons j).trans (List.Perm.swap i j r)
theorem sortI_perm : ∀ l : List Int, (sortI l).Perm l
  | [] => List.Perm.refl _
  | i :: r => (insI_perm i (sortI r)).trans ((sortI_perm r).cons i)
theorem insI_srt (i : Int) : ∀ l : List Int, l.Pairwise (· ≤ ·) → (insI i l).Pairwise (· ≤ ·)
  | [], _ => List.pairwise_singleton _ _
  | j :: r, h => by
    have h1 := (List.pairwise_cons.mp h).1
    have h2 := (List.pairwise_cons.mp h).2
    unfold insI
    split
    · rename_i q
      refine List.pairwise_cons.mpr ⟨fun z hz => ?_, h⟩
      rcases List.mem_cons.mp hz with e | e
      · omega
      · have := h1 z e
        omega
    · rename_i q
      refine List.pairwise_cons.mpr ⟨fun z hz => ?_, insI_srt i r h2⟩
      rcases List.mem_cons.mp ((insI_perm i r).mem_iff.mp hz) with e | e
      · omega
      · exact h1 z e
theorem sortI_srt : ∀ l : List Int, (sortI l).Pairwise (· ≤ ·)
  | [] => List.Pairwise.nil
  | i :: r => insI_srt i _ (sortI_srt r)
theorem srt_one {a b : List Int} (p : a.Perm b) (ha : a.Pairwise (· ≤ ·)) (hb : b.Pairwise (· ≤ ·)) : a = b :=
  p.eq_of_pairwise (le := (· ≤ ·)) (fun x y _ _ h1 h2 => Int.le_antisymm h1 h2) ha hb
theorem zip_keys : ∀ {ks : List Key} {vs : List V}, ks.length = vs.length → (ks.zip vs).map (fun kv => kV kv.1) = ks.map kV
  | [], _, _ => rfl
  | k :: ks, [], h => by cases h
  | k :: ks, v :: vs, h => by
    show kV k :: (ks.zip vs).map (fun kv => kV kv.1) = kV k :: ks.map kV
    rw [zip_keys (by simpa using h)]

theorem shw_ok (hK : X.K = g.B.K) (hgu : X.A.guards = some []) (hun : X.A.units + 60 < cLine) {x z : D} {v : V} (h : shwD x = some z) (so : SOk g.B R F m μ H) (r : Seen g.B F m H x v) (q : Aft g R F m μ z Q) (hv : ∃ a, v = .ref a) : SC X (.builtin "repr") [v] H Q := by
  unfold shwD at h
  cases e : x.py with
  | none =>
    rw [e] at h
    cases h
  | some p =>
    rw [e] at h
    have h : (if p.showable = true ∧ p.hasDict = false ∧ p.shown.length ≤ sizeLine ∧ p.depth ≤ 50 then some (D.str p.shown) else none) = some z := h
    split at h
    · rename_i hc
      obtain ⟨c1, c2, c3, c4⟩ := hc
      have h := Option.some.inj h
      subst h
      have dp : Dp X.K H v p := hK ▸ r.dp so.sub e
      obtain ⟨a, rfl⟩ := hv
      intro pins s σ us I rv
      have eu := rv.ref1
      subst eu
      obtain ⟨as, rd⟩ := Dp.reads I p _ _ dp rfl
      refine repr_of_reads' rd c1 (fun hd => by rw [c2] at hd; cases hd) hgu (by omega) (fun _ _ e => e) (fun h' u tk hk => ?_) c3
      exact ⟨.str p.shown, H, I.kept (t' := tk) hk, ⟨u, rfl⟩, q.here so rfl⟩
    · cases h
/-- repr of anything that is served -/
theorem rep_ok (hK : X.K = g.B.K) (hgu : X.A.guards = some []) (hun : X.A.units + 60 < cLine) {x z : D} {v : V} (h : repD x = some z) (so : SOk g.B R F m μ H) (r : Seen g.B F m H x v) (q : Aft g R F m μ z Q) : SC X (.builtin "repr") [v] H Q := by
  unfold repD at h
  split at h
  · have h := Option.some.inj h
    subst h
    have r : v = _ := r
    subst r
    intro pins s σ us I rv
    cases rv with
    | cons r1 r2 =>
      cases r2
      cases r1
      exact PySem.P.repr_of_bool ⟨.str _, H, I.tok _, ⟨_, rfl⟩, q.here so rfl⟩
  · have h := Option.some.inj h
    subst h
    have r : v = _ := r
    subst r
    intro pins s σ us I rv
    cases rv with
    | cons r1 r2 =>
      cases r2
      cases r1
      exact PySem.P.repr_of_none ⟨.str _, H, I.tok _, ⟨_, rfl⟩, q.here so rfl⟩
  · split at h
    · rename_i hl
      have h := Option.some.inj h
      subst h
      have r : v = _ := r
      subst r
      intro pins s σ us I rv
      cases rv with
      | cons r1 r2 =>
        cases r2
        obtain ⟨t, rfl⟩ := r1
        exact PySem.P.repr_of_int hl ⟨.str _, H, I.tok _, ⟨_, rfl⟩, q.here so rfl⟩
    · cases h
  · split at h
    · rename_i hl
      have h := Option.some.inj h
      subst h
      have r : v = _ := r
      subst r
      intro pins s σ us I rv
      cases rv with
      | cons r1 r2 =>
        cases r2
        obtain ⟨t, rfl⟩ := r1
        exact PySem.P.repr_of_str (hsz := hl) ⟨.str _, H, I.tok _, ⟨_, rfl⟩, q.here so rfl⟩
    · cases h
  · have h := Option.some.inj h
    subst h
    obtain ⟨a, vs, rfl, hH, hl, _⟩ := r
    have hH : H a = some (.dK []) := hH
    intro pins s σ us I rv
    have eu := rv.ref1
    subst eu
    obtain ⟨_, hsm, ws, kv, o, es, ep, h1, h2, h3, h4, h5, h6⟩ := I.hok a _ hH
    have ew : ws = [] := by
      cases kv
      rfl
    subst ew
    have ee : es.toList = [] := by
      have := h5.length
      exact List.length_eq_zero_iff.mp this
    have rd : Reads s.heap (.ref a) (.dict []) (a :: [] ++ []) := .dict h1 h2.1 h3 (by rw [ee]; exact .nil) (by rw [ee]; exact .nil)
    have dep0 : (PyData.dict []).depth = 1 := by simp [PyData.depth, PyData.depthKv]
    refine repr_of_reads' rd (by decide) (fun _ hm => ?_) hgu (by rw [dep0]; omega) (fun _ _ e => e) (fun h' u tk hk => ?_) (by decide)
    · simp at hm
      rw [hm] at hsm
      simp at hsm
    · exact ⟨.str _, H, I.kept (t' := tk) hk, ⟨u, rfl⟩, q.here so rfl⟩
  · exact shw_ok hK hgu hun h so r q (by obtain ⟨a, _, e, _⟩ := r; exact ⟨a, e⟩)
  · exact shw_ok hK hgu hun h so r q (by obtain ⟨a, _, e, _⟩ := r; exact ⟨a, e⟩)
  · cases h
theorem blt_ok (cx : CxOk g ct W X) (hgd : b = Blt.repr → g.gd = true) {z : D} {vs : List V} (h : bltD b ds = some z) (so : SOk g.B R F m μ H) (r : SeenL g.B F m H ds vs) (q : Aft g R F m μ z Q) : SC X b.val vs H Q := by
  unfold bltD at h
  split at h
  · split at h
    · rename_i hl
      have h := Option.some.inj h
      subst h
      obtain ⟨v, us, rfl, r1, r2⟩ := r
      have r1 : v = _ := r1
      have r2 : us = _ := r2
      subst r1 r2
      exact SC.of call_len ⟨_, _, rfl, ⟨hl, rfl⟩, q.here so rfl⟩
    · cases h
  · have h := Option.some.inj h
    subst h
    obtain ⟨v, us, rfl, r1, r2⟩ := r
    have r2 : us = _ := r2
    subst r2
    obtain ⟨a, ws, rfl, hs, r⟩ := r1
    exact SC.of call_len ⟨_, _, rfl, .inr ⟨ws, cx.K ▸ seqT_mono so.sub hs, rfl⟩, q.here so (by rw [r.length]; exact rfl)⟩
  · have h := Option.some.inj h
    subst h
    obtain ⟨v, us, rfl, r1, r2⟩ := r
    have r2 : us = _ := r2
    subst r2
    obtain ⟨a, ws, rfl, hs, r⟩ := r1
    exact SC.of call_len ⟨_, _, rfl, .inl ⟨ws, SqL.of hs, rfl⟩, q.here so (by show V.int _ = V.int _; rw [r.length])⟩
  · have h := Option.some.inj h
    subst h
    obtain ⟨v, us, rfl, r1, r2⟩ := r
    have r2 : us = _ := r2
    subst r2
    obtain ⟨a, ws, rfl, hs, r⟩ := r1
    exact SC.of call_len ⟨_, _, rfl, .inl ⟨ws, cx.K ▸ so.sub.seq hs, rfl⟩, q.here so (by show V.int _ = V.int _; rw [r.length])⟩
  · rename_i ks xs
    have h := Option.some.inj h
    subst h
    obtain ⟨v, us, rfl, r1, r2⟩ := r
    have r2 : us = _ := r2
    subst r2
    obtain ⟨a, ws, rfl, hs, hl, r⟩ := r1
    intro pins s σ us I rv
    have e := rv.ref1
    subst e
    refine d_len I (.inl hs) fun t s' I' => ⟨.int ks.length, H, I', ⟨t, ?_⟩, q.here so rfl⟩
    rw [List.length_zip, hl, Nat.min_self]
  · rename_i xs
    obtain ⟨v, us, rfl, r1, r2⟩ := r
    have r2 : us = _ := r2
    subst r2
    cases e : bls? xs with
    | none =>
      rw [e] at h
      cases h
    | some bs =>
      rw [e] at h
      have h := Option.some.inj h
      subst h
      obtain ⟨a, ws, rfl, hs, r⟩ := r1
      have ew := r.bls e
      subst ew
      exact SC.of (cr_any cx.calm) ⟨a, bs, rfl, SqL.of hs, q.here so rfl⟩
  · rename_i xs
    obtain ⟨v, us, rfl, r1, r2⟩ := r
    have r2 : us = _ := r2
    subst r2
    cases e : ints? xs with
    | none =>
      rw [e] at h
      cases h
    | some ns =>
      rw [e] at h
      have h := Option.some.inj h
      subst h
      obtain ⟨a, ws, rfl, hs, r⟩ := r1
      have ew := r.ints e
      subst ew
      exact SC.of (cr_sum cx.calm) ⟨a, ns, rfl, SqL.of hs, q.here so rfl⟩
  · rename_i xs
    obtain ⟨v, us, rfl, r1, r2⟩ := r
    have r2 : us = _ := r2
    subst r2
    cases e : ints? xs with
    | none =>
      rw [e] at h
      cases h
    | some ns =>
      rw [e] at h
      have h : (if ns.length < 64 then some (D.lst ((sortI ns).map .int)) else none) = some z := h
      split at h
      · have h := Option.some.inj h
        subst h
        obtain ⟨a, ws, rfl, hs, r⟩ := r1
        have ew := r.ints e
        subst ew
        refine SC.of cr_sortedI ⟨a, ns, rfl, SqL.of hs, fun ns' p hp hs' hn => ?_⟩
        have en : ns' = sortI ns := srt_one (hp.trans (sortI_perm ns).symm) hs' (sortI_srt ns)
        subst en
        exact q.lst so (RepL.ofInts _) p hn
      · cases h
  · rename_i ks xs
    obtain ⟨v, us, rfl, r1, r2⟩ := r
    have r2 : us = _ := r2
    subst r2
    cases e : intsK? ks with
    | none =>
      rw [e] at h
      cases h
    | some ns =>
      rw [e] at h
      have h : (if ns.length < 64 then some (D.lst ((sortI ns).map .int)) else none) = some z := h
      split at h
      · rename_i h64
        have h := Option.some.inj h
        subst h
        obtain ⟨a, ws, rfl, hs, hl, r⟩ := r1
        refine SC.of (call_sortedDI cx.calm) ⟨a, _, ns, rfl, .inl hs, (List.map_fst_zip (Nat.le_of_eq hl)).trans (intsK_ok e), h64, fun ns' p hp hs' hn => ?_⟩
        have en : ns' = sortI ns := srt_one (hp.trans (sortI_perm ns).symm) hs' (sortI_srt ns)
        subst en
        exact q.lst so (RepL.ofInts _) p hn
      · cases h
  · have h := Option.some.inj h
    subst h
    obtain ⟨v, us, rfl, r1, r2⟩ := r
    have r2 : us = _ := r2
    subst r2
    obtain ⟨a, ws, rfl, hs, r⟩ := r1
    exact SC.of call_tuple_of ⟨a, ws, rfl, .inl ⟨SqL.of hs, q.tup so r⟩⟩
  · have h := Option.some.inj h
    subst h
    obtain ⟨v, us, rfl, r1, r2⟩ := r
    have r2 : us = _ := r2
    subst r2
    obtain ⟨a, ws, rfl, hs, r⟩ := r1
    exact SC.of call_tuple_of ⟨a, ws, rfl, .inr ⟨cx.K ▸ seqT_mono so.sub hs, q.here so ⟨a, ws, rfl, hs, r⟩⟩⟩
  · have h := Option.some.inj h
    subst h
    obtain ⟨v, us, rfl, r1, r2⟩ := r
    have r2 : us = _ := r2
    subst r2
    obtain ⟨a, ws, rfl, hs, r⟩ := r1
    exact SC.of call_list_of ⟨a, ws, rfl, .inl (SqL.of hs), q.lst so r⟩
  · have h := Option.some.inj h
    subst h
    obtain ⟨v, us, rfl, r1, r2⟩ := r
    have r2 : us = _ := r2
    subst r2
    obtain ⟨a, ws, rfl, hs, r⟩ := r1
    exact SC.of call_list_of ⟨a, ws, rfl, .inr (cx.K ▸ seqT_mono so.sub hs), q.lst so r⟩
  · have h := Option.some.inj h
    subst h
    obtain ⟨v, us, rfl, r1, r2⟩ := r
    have r2 : us = _ := r2
    subst r2
    obtain ⟨a, ws, rfl, hs, hl, r⟩ := r1
    refine SC.of (call_list_dK cx.calm) ⟨a, _, rfl, hs, ?_⟩
    rw [zip_keys hl]
    exact q.lst so (RepL.ofKeys _)
  · have h := Option.some.inj h
    subst h
    obtain ⟨v, us, rfl, r1, r2⟩ := r
    have r1 : v = _ := r1
    have r2 : us = _ := r2
    subst r1 r2
    exact SC.of call_abs ⟨_, rfl, q.here so rfl⟩
  · have h := Option.some.inj h
    subst h
    obtain ⟨v, us, rfl, r1, r2⟩ := r
    have r1 : v = _ := r1
    have r2 : us = _ := r2
    subst r1 r2
    exact SC.of call_int1 (.inl ⟨_, rfl, q.here so rfl⟩)
  · have h := Option.some.inj h
    subst h
    obtain ⟨v, us, rfl, r1, r2⟩ := r
    have r1 : v = _ := r1
    have r2 : us = _ := r2
    subst r1 r2
    exact SC.of call_int1 (.inr ⟨_, rfl, q.here so rfl⟩)
  · have h := Option.some.inj h
    subst h
    obtain ⟨v, us, rfl, r1, w, us', rfl, r3, r2⟩ := r
    have r1 : v = _ := r1
    have r3 : w = _ := r3
    have r2 : us' = _ := r2
    subst r1 r2 r3
    exact SC.of (call_max2 cx.calm) ⟨_, _, rfl, q.here so rfl⟩
  · have h := Option.some.inj h
    subst h
    obtain ⟨v, us, rfl, r1, w, us', rfl, r3, r2⟩ := r
    have r1 : v = _ := r1
    have r3 : w = _ := r3
    have r2 : us' = _ := r2
    subst r1 r2 r3
    exact SC.of (call_min2 cx.calm) ⟨_, _, rfl, q.here so rfl⟩
  · rename_i xs
    obtain ⟨v, us, rfl, r1, r2⟩ := r
    have r2 : us = _ := r2
    subst r2
    cases e : bls? xs with
    | none =>
      rw [e] at h
      cases h
    | some bs =>
      rw [e] at h
      have h := Option.some.inj h
      subst h
      obtain ⟨a, ws, rfl, hs, r⟩ := r1
      have ew := r.bls e
      subst ew
      exact SC.of (cr_all cx.calm) ⟨a, bs, rfl, SqL.of hs, q.here so rfl⟩
  · obtain ⟨v, us, rfl, r1, r2⟩ := r
    have r2 : us = _ := r2
    subst r2
    exact rep_ok cx.K (cx.gu (hgd rfl)) (by have := cx.room.units; omega) h so r1 q
  · cases h

theorem ty_ok (cx : CxOk g ct W X) (so : SOk g.B R F m μ H) : ∀ {x : D} {v : V} {t : String}, tyD x = some (.ty t) → Seen g.B F m H x v → TyX X.K H v (.type t)
  | .non, v, t, h, r => by
    have r : v = _ := r
    have h := Ty.ty.inj (Option.some.inj h)
    subst r h
    exact .base .non
  | .bl b, v, t, h, r => by
    have r : v = _ := r
    have h := Ty.ty.inj (Option.some.inj h)
    subst r h
    exact .base (.bl b)
  | .int i, v, t, h, r => by
    have r : v = _ := r
    have h := Ty.ty.inj (Option.some.inj h)
    subst r h
    exact .base (.int i)
  | .str x, v, t, h, r => by
    have r : v = _ := r
    have h := Ty.ty.inj (Option.some.inj h)
    subst r h
    exact .base (.str x)
  | .tup xs, v, t, h, r => by
    have h := Ty.ty.inj (Option.some.inj h)
    subst h
    obtain ⟨a, vs, rfl, hs, _⟩ := r
    have hs := seqT_mono so.sub hs
    rcases hs with (hs | ⟨o, hs⟩) | ⟨o, its, n, hk, hc, _⟩
    · exact .base (.tup hs)
    · exact .fTuple hs
    · exact .kTuple (cx.K ▸ hk) hc
  | .lst xs, v, t, h, r => by
    have h := Ty.ty.inj (Option.some.inj h)
    subst h
    obtain ⟨a, vs, rfl, hs, _⟩ := r
    exact .base (.lst hs)
  | .dic ks xs, v, t, h, r => by
    have h := Ty.ty.inj (Option.some.inj h)
    subst h
    obtain ⟨a, vs, rfl, hs, _⟩ := r
    exact .base (.dK hs)
  | .ins _ _, _, _, h, _ => by cases h
  | .cls _, _, _, h, _ => by cases h
  | .ref _, _, _, h, _ => by cases h
  | .rol _, _, _, h, _ => by cases h
theorem tyD_mem : ∀ {x : D} {t : String}, tyD x = some (.ty t) → t ∈ ["NoneType", "bool", "int", "str", "tuple", "list", "dict"]
  | .non, _, h => by rw [← Ty.ty.inj (Option.some.inj h)]; decide
  | .bl b, _, h => by rw [← Ty.ty.inj (Option.some.inj h)]; decide
  | .int i, _, h => by rw [← Ty.ty.inj (Option.some.inj h)]; decide
  | .str x, _, h => by rw [← Ty.ty.inj (Option.some.inj h)]; decide
  | .tup xs, _, h => by rw [← Ty.ty.inj (Option.some.inj h)]; decide
  | .lst xs, _, h => by rw [← Ty.ty.inj (Option.some.inj h)]; decide
  | .dic ks xs, _, h => by rw [← Ty.ty.inj (Option.some.inj h)]; decide
  | .ins _ _, _, h => by cases h
  | .cls _, _, h => by cases h
  | .ref _, _, h => by cases h
  | .rol _, _, h => by cases h
theorem kit_all : ∀ a ∈ ["NoneType", "bool", "int", "str", "tuple", "list", "dict"], ∀ b ∈ ["int", "str", "tuple", "list", "dict", "bool"],
    kitB a b = some (decide (a = b) || (decide (a = "bool") && decide (b = "int"))) := by decide +kernel
/-- the value of a class -/
def tyVal (B : Bk) : Ty → V → Prop
  | .ty n, v => v = .ty n
  | .own c, v => ∃ a ns, B.cls[c]? = some (a, ns) ∧ v = .ref a
theorem own_ty (cx : CxOk g ct W X) {T : Tab} (fo : FnsOk g T ct.nm) (so : SOk g.B R F m μ H) {x : D} {c : Nat} {v : V} (h : tyD x = some (.own c)) (r : Seen g.B F m H x v) : ∃ a ns, g.B.cls[c]? = some (a, ns) ∧ TyX X.K H v (.ref a) := by
  cases x with
  | ins c' xs =>
    have h := Ty.own.inj (Option.some.inj h)
    subst h
    obtain ⟨a, C, dx, ns, vs, rfl, hc, _, hF, _⟩ := r
    obtain ⟨cl, ci⟩ := fo.isi _ C ns hc
    refine ⟨C, ns, hc, .base (.ins (so.sub _ _ hF) (cx.K ▸ cl) ?_ ?_ ?_ ?_)⟩
    · rw [cx.K]
      exact ci.ca
    · rw [cx.K]
      exact ci.cn
    · rw [cx.K]
      exact ci.ct
    · rw [cx.K]
      exact ci.cm
  | _ => cases h
theorem isi_ok (cx : CxOk g ct W X) {T : Tab} (fo : FnsOk g T ct.nm) {x : D} {t : Ty} {k : Bool} {v u : V} (h : isiD x t = some k) (so : SOk g.B R F m μ H) (r : Seen g.B F m H x v) (ru : tyVal g.B t u) (q : Q (.bl k) H) : SC X (.builtin "isinstance") [v, u] H Q := by
  unfold isiD at h
  split at h
  · rename_i s c hd
    have h := Option.some.inj h
    subst h
    obtain ⟨a, ns, hc, rfl⟩ := ru
    refine SC.of call_isi ⟨v, .ref a, .type s, .ref a, _, rfl, .own a, ty_ok cx so hd r, ?_, q⟩
    rw [cx.K]
    exact fo.kitB c a ns hc s (tyD_mem hd)
  · rename_i c c' hd
    have h := Option.some.inj h
    subst h
    obtain ⟨a', ns', hc', rfl⟩ := ru
    obtain ⟨a, ns, hc, hty⟩ := own_ty cx fo so hd r
    refine SC.of call_isi ⟨v, .ref a', .ref a, .ref a', _, rfl, .own a', hty, ?_, q⟩
    rw [cx.K]
    exact fo.kit c c' a a' ns ns' hc hc'
  · rename_i c n hd
    split at h
    · rename_i hm
      have h := Option.some.inj h
      subst h
      have ru : u = .ty n := ru
      subst ru
      obtain ⟨a, ns, hc, hty⟩ := own_ty cx fo so hd r
      refine SC.of call_isi ⟨v, .ty n, .ref a, .type n, _, rfl, .ty n, hty, ?_, q⟩
      rw [cx.K]
      exact fo.kitT c a ns hc n hm
    · cases h
  · rename_i a n hd
    split at h
    · rename_i hm
      have h := Option.some.inj h
      subst h
      have ru : u = .ty n := ru
      subst ru
      exact SC.of call_isi ⟨v, .ty n, .type a, .type n, _, rfl, .ty n, ty_ok cx so hd r, kit_ty (kit_all a (tyD_mem hd) n hm), q⟩
    · cases h
  · cases h

/-! ### methods -/
def Mth.id : Mth → String
  | .join => "str.join"
  | .upper => "str.upper"
def Mth.of : Mth → String
  | .join => "str"
  | .upper => "str"
/-- a method by values -/
def SM (X : Cx) (id : String) : V → List V → Hp → VK → Prop := fun x xs H Q => ∀ (pins : List (Addr × Obj)) (s : Shared) (σ : St) (v : Value) (us : List Value), L2.Inv X pins σ H s → RelV x v → Vals xs us →
  wpAny (model X.prog X.w) X.A (call (.builtin id) (v :: us)) (EP X pins σ Q) X.xe s
theorem mt_sm (X : Cx) (id : String) : MtR X id (SM X id) := fun pins s σ H x xs v us Q I rx rv h => h pins s σ v us I rx rv
theorem SM.of {X : Cx} {id : String} {r : V → List V → Hp → VK → Prop} {x : V} {xs : List V} {H : Hp} {Q : VK} (h : MtR X id r) (q : r x xs H Q) : SM X id x xs H Q := fun pins s σ v us I rx rv => h pins s σ H x xs v us Q I rx rv q
theorem mth_ty (cx : CxOk g ct W X) {mt : Mth} {o : D} {v : V} (h : mthTy mt o = true) (so : SOk g.B R F m μ H) (r : Rep g.B F m o v) : tyV X.K mt.of v H := by
  unfold mthTy at h
  split at h
  · have r : v = _ := r
    subst r
    exact rfl
  · have r : v = _ := r
    subst r
    exact rfl
  · cases h
theorem mth_ok (cx : CxOk g ct W X) {mt : Mth} {o : D} {ds : List D} {z : D} {v : V} {vs : List V} (h : mthD mt o ds = some z) (so : SOk g.B R F m μ H) (ro : Rep g.B F m o v) (r : RepL g.B F m ds vs) (q : Aft g R F m μ z Q) : SM X mt.id v vs H Q := by
  unfold mthD at h
  split at h
  · rename_i a xs
    have ro : v = _ := ro
    subst ro
    obtain ⟨v, us, rfl, r1, r2⟩ := r
    have r2 : us = _ := r2
    subst r2
    obtain ⟨p, ws, rfl, hs, r⟩ := r1
    cases e : strs? xs with
    | none =>
      rw [e] at h
      cases h
    | some ys =>
      rw [e] at h
      have h : (if (ys.map (·.length)).sum + ys.length * a.length ≤ 16777216 then some (D.str (Txt.join a ys)) else none) = some z := h
      split at h
      · rename_i hl
        have h := Option.some.inj h
        subst h
        have ew := r.strs e
        subst ew
        exact SM.of mt_join ⟨a, p, ys, rfl, rfl, .inl (SqL.of (so.sub _ _ hs)), hl, q.here so rfl⟩
      · cases h
  · have ro : v = _ := ro
    have r : vs = [] := r
    subst ro r
    split at h
    · rename_i hl
      have h := Option.some.inj h
      subst h
      exact SM.of mt_upper ⟨_, rfl, rfl, hl, q.here so rfl⟩
    · cases h
  · cases h
theorem Mth.plain (mt : Mth) : PlainAttrs mt.of := by
  cases mt
  · exact PySem.F.plainAttrs_str
  · exact PySem.F.plainAttrs_str
theorem Mth.slot (mt : Mth) : Slot mt.of mt.nm mt.id := by
  cases mt
  · exact PySem.F.slot_str_join
  · exact PySem.F.slot_str_upper
theorem Mth.typ (mt : Mth) : typeOf (.builtin mt.id) = pure (.type "method_descriptor") := by
  cases mt
  · exact PySem.F.type_str_join
  · exact PySem.F.type_str_upper

/-! ### slices -/
def SZ (X : Cx) : V → Option Int → Option Int → Hp → VK → Prop := fun x lo hi H Q => ∀ (pins : List (Addr × Obj)) (s : Shared) (σ : St) (v vl vu : Value) (sl : Addr), L2.Inv X pins σ H s → RelV x v → s.heap.IsSliceOf sl vl vu Value.none → IsPart vl lo → IsPart vu hi →
  ∃ T id, typeLookup (Value.type T) (Str.ofString "__getitem__") = pure (some (Value.builtin id)) ∧ s.TypeIs v T ∧ wpAny (model X.prog X.w) X.A (getItem v (Value.ref sl)) (EP X pins σ Q) X.xe s
theorem sl_sz (X : Cx) : SlR X (SZ X) := fun pins s σ H x v vl vu lo hi sl Q I rx h1 h2 h3 h => h pins s σ v vl vu sl I rx h1 h2 h3
theorem SZ.of {X : Cx} {r : V → Option Int → Option Int → Hp → VK → Prop} {x : V} {lo hi : Option Int} {H : Hp} {Q : VK} (h : SlR X r) (q : r x lo hi H Q) : SZ X x lo hi H Q := fun pins s σ v vl vu sl I rx h1 h2 h3 => h pins s σ H x v vl vu lo hi sl Q I rx h1 h2 h3 q
theorem cut_all {α : Type} {xs : List α} {lo hi : Option Int} (h : HT.sIx xs.length 0 lo = 0 ∧ HT.sIx xs.length xs.length hi = xs.length) : cutD xs lo hi = xs := by
  unfold cutD
  rw [h.1, h.2]
  simp
theorem slc_ok (cx : CxOk g ct W X) {o z : D} {v : V} {lo hi : Option Int} (h : slcD o lo hi = some z) (so : SOk g.B R F m μ H) (ro : Seen g.B F m H o v) (q : Aft g R F m μ z Q) : SZ X v lo hi H Q := by
  unfold slcD at h
  split at h
  · have ro : v = _ := ro
    subst ro
    split at h
    · rename_i hl
      have h := Option.some.inj h
      subst h
      exact SZ.of sl_str ⟨_, rfl, hl, q.here so rfl⟩
    · cases h
  · have h := Option.some.inj h
    subst h
    obtain ⟨a, vs, rfl, hs, r⟩ := ro
    exact SZ.of sl_list ⟨a, vs, rfl, SqL.of hs, q.lst so (r.cutD lo hi)⟩
  · have h := Option.some.inj h
    subst h
    obtain ⟨a, vs, rfl, hs, r⟩ := ro
    refine SZ.of sl_tupA ⟨a, vs, rfl, cx.K ▸ seqT_mono so.sub hs, fun e => ?_, fun _ => q.tup so (r.cutD lo hi)⟩
    rw [← r.length] at e
    rw [cut_all e] at q
    exact q.here so ⟨a, vs, rfl, hs, r⟩
  · cases h

/-! ### a def is called -/
/-- below the running body: A as it stands there -/
theorem fn_at (cx : CxOk g ct W X) {f : Addr} {t : List D → M D} (F0 : FnP g.gd g.P g.w g.B.K g.mg g.base g.lv f (Prm g.B t)) {A : Around} (hr : Room g.lv A) (hA : g.gd = true → A.guards = some [])
    {ds : List D} {vs : List V} {σ : St} {r : Except Exc D × Store} (h : t ds μ = some r) (so : SOk g.B R F m μ H) (rv : RepL g.B F m ds vs)
    (q : Post g.B R W σ F m r (fun F' m' H' d => ∀ v, Rep g.B F' m' d v → Q v H')) :
    ∀ (pins : List (Addr × Obj)) (s : Shared) (us : List Value), L2.Inv X pins σ H s → Env0 X.prog X.w X.K X.mg X.base A X.stack s H → Vals vs us →
      codeAny (model X.prog X.w) A (.call (.ref f) ⟨us, []⟩) (fun r s' => match r with | .ok (.ret v) => EP X pins σ Q v s' | .ok _ => False | .error e => X.xe e s') s := by
  intro pins s us I e0 r2
  have F1 : FnP g.gd X.prog X.w X.K X.mg X.base g.lv f (Prm g.B t) := by
    rw [cx.prog, cx.w, cx.K, cx.mg, cx.base]
    exact F0
  have hp : Prm g.B t vs H Q (fun cls dx H' => W cls dx σ H') := by
    refine ⟨R, F, m, μ, ds, r, so, rv, h, ?_⟩
    obtain ⟨r1, r2⟩ := r
    cases r1 with
    | ok a => exact q
    | error x => exact q
  refine codeAny_mono (F1 A X.stack s H us vs Q _ hr hA e0 r2 hp) fun r s' hq => ?_
  cases r with
  | error e => exact cx.tk _ _ (XE.of_call I (fun _ _ _ h => h) hq)
  | ok fl =>
    cases fl with
    | ret u => exact I.after hq
    | next => exact False.elim hq
    | brk => exact False.elim hq
    | cont => exact False.elim hq
theorem fn_run (cx : CxOk g ct W X) {f : Addr} {t : List D → M D} (F0 : FnP g.gd g.P g.w g.B.K g.mg g.base g.lv f (Prm g.B t))
    {ds : List D} {vs : List V} {σ : St} {r : Except Exc D × Store} (h : t ds μ = some r) (so : SOk g.B R F m μ H) (rv : RepL g.B F m ds vs)
    (q : Post g.B R W σ F m r (fun F' m' H' d => ∀ v, Rep g.B F' m' d v → Q v H')) :
    ∀ (pins : List (Addr × Obj)) (s : Shared) (us : List Value), L2.Inv X pins σ H s → Vals vs us → wpAny (model X.prog X.w) X.A (call (.ref f) us) (EP X pins σ Q) X.xe s :=
  fun pins s us I r2 => wpAny_call (fn_at cx F0 (cx.room.mono (Nat.le_succ _)) cx.gu h so rv q pins s us I I.env0 r2)
/-- where no exception comes -/
theorem fn_sure (cx : CxOk g ct W X) {f : Addr} {t : List D → M D} (F0 : FnP g.gd g.P g.w g.B.K g.mg g.base g.lv f (Prm g.B t)) {A : Around} (hr : Room g.lv A) (hA : g.gd = true → A.guards = some [])
    {ds : List D} {vs : List V} {σ : St} {z : D} {μ' : Store} (h : t ds μ = some (.ok z, μ')) (so : SOk g.B R F m μ H) (rv : RepL g.B F m ds vs)
    (q : ∀ F' m' H', Grow F m F' m' → SOk g.B R F' m' μ' H' → ∀ v, Rep g.B F' m' z v → Q v H') :
    ∀ (pins : List (Addr × Obj)) (s : Shared) (us : List Value), L2.Inv X pins σ H s → Env0 X.prog X.w X.K X.mg X.base A X.stack s H → Vals vs us →
      codeAny (model X.prog X.w) A (.call (.ref f) ⟨us, []⟩) (fun r s' => match r with | .ok (.ret v) => EP X pins σ Q v s' | _ => False) s := by
  intro pins s us I e0 r2
  have F1 : FnP g.gd X.prog X.w X.K X.mg X.base g.lv f (Prm g.B t) := by
    rw [cx.prog, cx.w, cx.K, cx.mg, cx.base]
    exact F0
  have hp : Prm g.B t vs H Q (fun _ _ _ => False) := ⟨R, F, m, μ, ds, _, so, rv, h, q⟩
  refine codeAny_mono (F1 A X.stack s H us vs Q _ hr hA e0 r2 hp) fun r s' hq => ?_
  cases r with
  | error e =>
    obtain ⟨_, _, _, _, _, _, _, _, _, _, _, _, z⟩ := hq
    exact z.elim
  | ok fl =>
    cases fl with
    | ret u => exact I.after hq
    | next => exact False.elim hq
    | brk => exact False.elim hq
    | cont => exact False.elim hq
/-- by the number -/
theorem call_run (cx : CxOk g ct W X) {T : Tab} (fo : FnsOk g T ct.nm) {i : Nat} {f : Addr} (hf : g.fa[i]? = some f)
    {ds : List D} {vs : List V} {σ : St} {r : Except Exc D × Store} (h : callT T i ds μ = some r) (so : SOk g.B R F m μ H) (rv : RepL g.B F m ds vs)
    (q : Post g.B R W σ F m r (fun F' m' H' d => ∀ v, Rep g.B F' m' d v → Q v H')) :
    ∀ (pins : List (Addr × Obj)) (s : Shared) (us : List Value), L2.Inv X pins σ H s → Vals vs us → wpAny (model X.prog X.w) X.A (call (.ref f) us) (EP X pins σ Q) X.xe s := by
  unfold callT at h
  cases e : T.fns[i]? with
  | none =>
    rw [e] at h
    cases h
  | some t =>
    rw [e] at h
    obtain ⟨f', e', F0⟩ := fo.fn i t e
    rw [hf] at e'
    cases e'
    exact fn_run cx F0 h so rv q
/-- .. one step further in -/
theorem call_in1 (cx : CxOk g ct W X) {T : Tab} (fo : FnsOk g T ct.nm) {i : Nat} {f : Addr} (hf : g.fa[i]? = some f)
    {ds : List D} {vs : List V} {σ : St} {r : Except Exc D × Store} (h : callT T i ds μ = some r) (so : SOk g.B R F m μ H) (rv : RepL g.B F m ds vs)
    (q : Post g.B R W σ F m r (fun F' m' H' d => ∀ v, Rep g.B F' m' d v → Q v H')) :
    ∀ (pins : List (Addr × Obj)) (s : Shared) (us : List Value), L2.Inv X pins σ H s → Vals vs us →
      codeAny (model X.prog X.w) X.A.in1 (.call (.ref f) ⟨us, []⟩) (fun r s' => match r with | .ok (.ret v) => EP X pins σ Q v s' | .ok _ => False | .error e => X.xe e s') s := by
  unfold callT at h
  cases e : T.fns[i]? with
  | none =>
    rw [e] at h
    cases h
  | some t =>
    rw [e] at h
    obtain ⟨f', e', F0⟩ := fo.fn i t e
    rw [hf] at e'
    cases e'
    exact fun pins s us I r2 => fn_at cx F0 cx.room.in1 cx.gu h so rv q pins s us I I.env0.in1 r2
/-- .. as code -/
theorem call_code (cx : CxOk g ct W X) {T : Tab} (fo : FnsOk g T ct.nm) {i : Nat} {f : Addr} (hf : g.fa[i]? = some f)
    {ds : List D} {vs : List V} {σ : St} {r : Except Exc D × Store} (h : callT T i ds μ = some r) (so : SOk g.B R F m μ H) (rv : RepL g.B F m ds vs)
    (q : Post g.B R W σ F m r (fun F' m' H' d => ∀ v, Rep g.B F' m' d v → Q v H')) :
    ∀ (pins : List (Addr × Obj)) (s : Shared) (us : List Value), L2.Inv X pins σ H s → Vals vs us →
      codeAny (model X.prog X.w) X.A (.call (.ref f) ⟨us, []⟩) (fun r s' => match r with | .ok (.ret v) => EP X pins σ Q v s' | .ok _ => False | .error e => X.xe e s') s := by
  unfold callT at h
  cases e : T.fns[i]? with
  | none =>
    rw [e] at h
    cases h
  | some t =>
    rw [e] at h
    obtain ⟨f', e', F0⟩ := fo.fn i t e
    rw [hf] at e'
    cases e'
    exact fun pins s us I r2 => fn_at cx F0 (cx.room.mono (Nat.le_succ _)) cx.gu h so rv q pins s us I I.env0 r2
theorem callT_fa {T : Tab} (fo : FnsOk g T ct.nm) {i : Nat} {ds : List D} {r : Except Exc D × Store} (h : callT T i ds μ = some r) : ∃ f, g.fa[i]? = some f := by
  unfold callT at h
  cases e : T.fns[i]? with
  | none =>
    rw [e] at h
    cases h
  | some t =>
    obtain ⟨f, e', _⟩ := fo.fn i t e
    exact ⟨f, e'⟩
end
end Sg
/-! SgP: an exception that leaves a property. -/
namespace Sg
open PySem L2
theorem note_ok {X : Cx} {W : WX} {u : Value} {s' : Shared} (x : XE X W u s') (hna : ∀ cls d σ H, W cls d σ H → ∃ C, cls = .ref C ∧ PySem.W.subIn X.K (.ref C) (.type "AttributeError") = some false) {A : Around} {o n : Value} {Q : Unit → Shared → Prop} {E : Value → Shared → Prop} (q : Q () s') :
    wpAny (model X.prog X.w) A (noteIf true o n u) Q E s' := by
  obtain ⟨a, B, sI, pins, σ, H, cls, d, rfl, I, nb, up, sky, na, os, ag, w⟩ := x
  obtain ⟨C, rfl, hs⟩ := hna _ _ _ _ w
  have st : B.StaysIn s'.heap := by rcases sky with h | h | h <;> exact h.1
  have J : Inv X pins σ H { s' with heap := s'.heap } := I.landed nb st up os ag
  obtain ⟨oe, he, hc⟩ : ∃ oe, s'.heap.get? a = some oe ∧ oe.cls = .ref C := by
    rcases sky with ⟨_, _, _, oe, vs, h1, h2, _⟩ | ⟨_, _, _, oe, vs, T, oT, ts, h1, h2, _⟩ | ⟨_, _, _, oe, vs, T, oT, ts, h1, h2, _⟩ <;> exact ⟨oe, h1, h2.1⟩
  have LT : PySem.W.Looks (model X.prog X.w) s'.heap (typeOf (.ref a)) (.ref C) := fun A Q E s k q => wpAny_typeOf_ref (k _ _ he) (by rw [hc]; exact q)
  have L : PySem.W.Looks (model X.prog X.w) s'.heap (isInstance (.ref a) (.type "AttributeError")) false := LT.andThen (PySem.W.looks_subIn J.kIn hs)
  show wpAny _ _ (noteAttr (.ref a) o n) _ _ _
  unfold noteAttr lacksNameAndObj
  refine wpAny_bind (wpAny_bind (L.at ?_))
  exact wpAny_pure (wpAny_pure q)
section
variable {g : Gx} {ct : CT} {W : WX} {X : Cx} {T : Tab} {R F : Hp} {m : List Addr} {μ : Store} {H : Hp} {Q : VK}
/-- of a class that is no AttributeError -/
def NoAErr (X : Cx) (W : WX) : WX := fun cls d σ H => W cls d σ H ∧ ∃ C, cls = .ref C ∧ PySem.W.subIn X.K (.ref C) (.type "AttributeError") = some false
theorem fn_at2 (cx : CxOk g ct W X) (fo : FnsOk g T ct.nm) {f : Addr} {t : List D → M D} (F0 : FnP g.gd g.P g.w g.B.K g.mg g.base g.lv f (Prm g.B t)) {A : Around} (hr : Room g.lv A) (hA : g.gd = true → A.guards = some [])
    {ds : List D} {vs : List V} {σ : St} {r : Except Exc D × Store} (h : t ds μ = some r) (so : SOk g.B R F m μ H) (rv : RepL g.B F m ds vs)
    (q : Post g.B R W σ F m r (fun F' m' H' d => ∀ v, Rep g.B F' m' d v → Q v H')) :
    ∀ (pins : List (Addr × Obj)) (s : Shared) (us : List Value), L2.Inv X pins σ H s → Env0 X.prog X.w X.K X.mg X.base A X.stack s H → Vals vs us →
      codeAny (model X.prog X.w) A (.call (.ref f) ⟨us, []⟩) (fun r s' => match r with | .ok (.ret v) => EP X pins σ Q v s' | .ok _ => False | .error e => XE X (NoAErr X W) e s') s := by
  intro pins s us I e0 r2
  have F1 : FnP g.gd X.prog X.w X.K X.mg X.base g.lv f (Prm g.B t) := by
    rw [cx.prog, cx.w, cx.K, cx.mg, cx.base]
    exact F0
  have hp : Prm g.B t vs H Q (fun cls dx H' => NoAErr X W cls dx σ H') := by
    refine ⟨R, F, m, μ, ds, r, so, rv, h, ?_⟩
    obtain ⟨r1, r2⟩ := r
    cases r1 with
    | ok a => exact q
    | error x =>
      intro F' m' H' cls dx gr so' rx
      refine ⟨q F' m' H' cls dx gr so' rx, ?_⟩
      obtain ⟨ns, e, _⟩ := rx
      obtain ⟨k, hk⟩ := fo.xt.xl _ _ e
      obtain ⟨x, C, _, ok⟩ := fo.xt.xc _ k hk
      have hb := ok.bk
      rw [e] at hb
      cases hb
      exact ⟨C, rfl, by rw [cx.K]; exact ok.na⟩
  refine codeAny_mono (F1 A X.stack s H us vs Q _ hr hA e0 r2 hp) fun r s' hq => ?_
  cases r with
  | error e => exact XE.of_call I (fun _ _ _ h => h) hq
  | ok fl =>
    cases fl with
    | ret u => exact I.after hq
    | next => exact False.elim hq
    | brk => exact False.elim hq
    | cont => exact False.elim hq
theorem note_x (cx : CxOk g ct W X) {u : Value} {s' : Shared} (x : XE X (NoAErr X W) u s') {A : Around} {o n : Value} {E : Value → Shared → Prop} :
    wpAny (model X.prog X.w) A (noteIf true o n u) (fun _ s'' => X.xe u s'') E s' := by
  refine note_ok x (fun _ _ _ _ h => h.2) (cx.tk _ _ ?_)
  obtain ⟨a, B, sI, pins, σ, H, cls, d, e, I, nb, up, sky, na, os, ag, w⟩ := x
  exact ⟨a, B, sI, pins, σ, H, cls, d, e, I, nb, up, sky, na, os, ag, w.1⟩
end
end Sg
/-! Sg6: an expression that passes the checker does what the evaluator says. -/
namespace Sg
open PySem L2

abbrev QE (g : Gx) (Q : VK) : Hp → List Addr → Hp → D → Prop := fun F' m' H' d => ∀ v, Rep g.B F' m' d v → Q v H'
def JE (g : Gx) (W : WX) (X : Cx) (e : Expr) (f : Rho → M D) : Prop := ∀ ρ μ r, f ρ μ = some r → ∀ R F m σ H Q, SOk g.B R F m μ H → ROk g.B F m ρ σ → Post g.B R W σ F m r (QE g Q) → SE X e σ H Q
def JT (g : Gx) (W : WX) (X : Cx) (e : Expr) (f : Rho → M Bool) : Prop := ∀ ρ μ r, f ρ μ = some r → ∀ R F m σ H (Q : Bool → Hp → Prop), SOk g.B R F m μ H → ROk g.B F m ρ σ → Post g.B R W σ F m r (fun _ _ H' b => Q b H') → ST X e σ H Q
def JA (g : Gx) (W : WX) (X : Cx) (es : List Expr) (f : Rho → M (List D)) : Prop := ∀ ρ μ r, f ρ μ = some r → ∀ R F m σ H (Q : List V → Hp → Prop), SOk g.B R F m μ H → ROk g.B F m ρ σ →
  Post g.B R W σ F m r (fun F' m' H' ds => ∀ vs, RepL g.B F' m' ds vs → Q vs H') → SA X es σ H Q
def JO (g : Gx) (W : WX) (X : Cx) (e : Option Expr) (f : Rho → M (Option Int)) : Prop := ∀ ρ μ r, f ρ μ = some r → ∀ R F m σ H (Q : Option Int → Hp → Prop), SOk g.B R F m μ H → ROk g.B F m ρ σ → Post g.B R W σ F m r (fun _ _ H' o => Q o H') → SO X e σ H Q
def STs (X : Cx) (ifs : List Expr) : TT := fun σ H Q => ∀ (pins : List (Addr × Obj)) (s : Shared), L2.Inv X pins σ H s →
  wpAny (model X.prog X.w) X.A (forIn ifs true fun c r => if r = true then do
    let ok ← isTrue c X.env (eval c X.env)
    pure (ForInStep.yield ok) else pure (ForInStep.yield r)) (TP X pins σ Q) X.xe s
theorem pts_sts (X : Cx) (ifs : List Expr) : PTs X ifs (STs X ifs) := ⟨fun pins s σ H Q I h => h pins s I⟩
def JTs (g : Gx) (W : WX) (X : Cx) (ifs : List Expr) (f : Rho → M Bool) : Prop := ∀ ρ μ r, f ρ μ = some r → ∀ R F m σ H (Q : Bool → Hp → Prop), SOk g.B R F m μ H → ROk g.B F m ρ σ → Post g.B R W σ F m r (fun _ _ H' b => Q b H') → STs X ifs σ H Q

/-! ### walks -/
def SI (X : Cx) (tg iter : Expr) : TI := fun σ H R => ∀ (pins : List (Addr × Obj)) (s : Shared), L2.Inv X pins σ H s →
  wpAny (model X.prog X.w) X.A (eval iter X.env) (fun v s1 => wpAny (model X.prog X.w) X.A (pyIter v) (PIE X pins σ tg R) X.xe s1) X.xe s
theorem pi_si (X : Cx) (tg iter : Expr) : PI X tg iter (SI X tg iter) := ⟨fun pins s σ H R I h => h pins s I⟩
theorem SI.of {X : Cx} {tg iter : Expr} {t : TI} {σ : St} {H : Hp} {R : It → Hp → Prop} (h : PI X tg iter t) (q : t σ H R) : SI X tg iter σ H R := fun pins s I => h.run pins s σ H R I q
/-- the walk gives ds, one after the other, while F stands -/
def WalkD (B : Bk) (F : Hp) (m : List Addr) (J : It) (ds : List D) : Prop := Walk J ds.length (fun H => Same F H) (fun i H x H' => ∃ d, ds[i]? = some d ∧
  ∀ R F1 m1 μ, Grow F m F1 m1 → SOk B R F1 m1 μ H → ∃ F2, Grow F1 m1 F2 m1 ∧ SOk B R F2 m1 μ H' ∧ Rep B F2 m1 d x)
def JI (g : Gx) (W : WX) (X : Cx) (tg iter : Expr) (f : Rho → M (List D)) : Prop := ∀ ρ μ r, f ρ μ = some r → ∀ R F m σ H (G : It → Hp → Prop), SOk g.B R F m μ H → ROk g.B F m ρ σ →
  Post g.B R W σ F m r (fun F' m' H' ds => ∀ J, WalkD g.B F' m' J ds → G J H') → SI X tg iter σ H G
def SG (X : Cx) (tg : Expr) : TG := fun v σ H Q => ∀ (pins : List (Addr × Obj)) (s : Shared) (u : Value), L2.Inv X pins σ H s → RelV v u →
  wpAny (model X.prog X.w) X.A (assign tg X.env u) (fun _ s' => ∃ σ' H', L2.Inv X pins σ' H' s' ∧ Q σ' H') X.xe s
theorem pg_sg (X : Cx) (tg : Expr) : PG X tg (SG X tg) := ⟨fun pins s σ H v u Q I r h => h pins s u I r⟩
theorem SG.of {X : Cx} {tg : Expr} {t : TG} {v : V} {σ : St} {H : Hp} {Q : St → Hp → Prop} (h : PG X tg t) (q : t v σ H Q) : SG X tg v σ H Q := fun pins s u I r => h.run pins s σ H v u Q I r q
def SGs (X : Cx) (ts : List Expr) : TGs := fun vs σ H Q => ∀ (pins : List (Addr × Obj)) (s : Shared) (us : List Value), L2.Inv X pins σ H s → Vals vs us →
  wpAny (model X.prog X.w) X.A (assignInOrder ((assignEach ts X.env).map (·.2)) us) (fun _ s' => ∃ σ' H', L2.Inv X pins σ' H' s' ∧ Q σ' H') X.xe s
theorem pgs_sgs (X : Cx) (ts : List Expr) : PGs X ts (SGs X ts) := ⟨fun pins s σ H vs us Q I r h => h pins s us I r⟩
theorem SGs.of {X : Cx} {ts : List Expr} {t : TGs} {vs : List V} {σ : St} {H : Hp} {Q : St → Hp → Prop} (h : PGs X ts t) (q : t vs σ H Q) : SGs X ts vs σ H Q := fun pins s us I r => h.run pins s σ H vs us Q I r q

/-! ### the text's small facts -/
theorem asg_cons {e : Expr} (h : notStar e = true) (es : List Expr) (env : Env) : assignEach (e :: es) env = (false, assign e env) :: assignEach es env := by
  cases e <;> first | rfl | cases h
theorem star_cons {e : Expr} (h : notStar e = true) (es : List Expr) (env : Env) : starEach (e :: es) env = (false, eval e env) :: starEach es env := by
  cases e <;> first | rfl | cases h
theorem chkL_cons {ct : CT} {e : E} {es : List E} {xs : List Expr} (hs : isStar e = false) (h : chkL ct (e :: es) xs = true) : ∃ x r, xs = x :: r ∧ notStar x = true ∧ chkE ct e x = true ∧ chkL ct es r = true := by
  cases xs with
  | nil => cases e <;> first | (cases hs; done) | (simp only [chkL] at h; cases h)
  | cons x r =>
    have h : (notStar x && chkE ct e x && chkL ct es r) = true := by
      cases e <;> first | (cases hs; done) | simpa only [chkL] using h
    simp only [Bool.and_eq_true] at h
    exact ⟨x, r, rfl, h.1.1, h.1.2, h.2⟩
theorem noStars_cons {e : E} {es : List E} (h : noStars (e :: es) = true) : isStar e = false ∧ noStars es = true := by
  unfold noStars at h ⊢
  rw [List.all_cons, Bool.and_eq_true, Bool.not_eq_true'] at h
  exact h
theorem star_none {ct : CT} {pos : Pos} {env : Env} : ∀ {es : List E} {xs : List Expr}, noStars es = true → chkL ct es xs = true → ((backTo pos (starEach xs env)).any fun x => x.fst) = false
  | [], [], _, _ => rfl
  | [], _ :: _, _, h => by cases h
  | e :: es, xs, n, h => by
    obtain ⟨n1, n2⟩ := noStars_cons n
    obtain ⟨x, r, rfl, h1, _, h3⟩ := chkL_cons n1 h
    rw [star_cons h1]
    show (false || (backTo pos (starEach r env)).any fun x => x.fst) = false
    rw [star_none n2 h3]
    rfl
theorem star_all {ct : CT} {pos : Pos} {env : Env} : ∀ {es : List E} {xs : List Expr}, noStars es = true → chkL ct es xs = true → ((backTo pos (starEach xs env)).all fun x => !x.fst) = true
  | [], [], _, _ => rfl
  | [], _ :: _, _, h => by cases h
  | e :: es, xs, n, h => by
    obtain ⟨n1, n2⟩ := noStars_cons n
    obtain ⟨x, r, rfl, h1, _, h3⟩ := chkL_cons n1 h
    rw [star_cons h1]
    show (!false && (backTo pos (starEach r env)).all fun x => !x.fst) = true
    rw [star_all n2 h3]
    rfl
theorem asg_len {ct : CT} {env : Env} : ∀ {ts : List Tg} {es : List Expr}, chkTgs ct ts es = true → (assignEach es env).length = ts.length ∧ (assignEach es env).findIdx? (·.1) = none
  | [], [], _ => ⟨rfl, rfl⟩
  | [], _ :: _, h => by cases h
  | _ :: _, [], h => by cases h
  | t :: ts, e :: r, h => by
    have h : (notStar e && chkTg ct t e && chkTgs ct ts r) = true := h
    simp only [Bool.and_eq_true] at h
    obtain ⟨q1, q2⟩ := asg_len (env := env) h.2
    rw [asg_cons h.1.1]
    refine ⟨by rw [List.length_cons, q1]; rfl, ?_⟩
    rw [List.findIdx?_cons]
    show Option.map _ ((assignEach r env).findIdx? (·.1)) = none
    rw [q2]
    rfl
theorem wipe_get {σ : St} : ∀ {vs : List Nat} {j : Nat}, (L2.wipe σ vs)[j]? = if j ∈ vs then (σ[j]?).map (fun _ => none) else σ[j]?
  | [], j => by simp [L2.wipe]
  | v :: vs, j => by
    unfold L2.wipe
    rw [List.getElem?_set, wipe_get (vs := vs), L2.wipe_length]
    by_cases hv : v = j
    · subst hv
      by_cases hl : v < σ.length
      · simp [hl]
      · simp [hl]
    · have hj : ¬ j = v := fun e => hv e.symm
      simp [hv, hj]
theorem wipe_set {σ : St} {i : Nat} {x : Option V} {vs : List Nat} (h : i ∈ vs) : L2.wipe (σ.set i x) vs = L2.wipe σ vs := by
  apply List.ext_getElem?
  intro j
  rw [wipe_get, wipe_get]
  by_cases hj : j ∈ vs
  · rw [if_pos hj, if_pos hj, List.getElem?_set]
    by_cases hi : i = j
    · subst hi
      by_cases hl : i < σ.length
      · simp [hl]
      · simp [hl]
    · simp [hi]
  · have hi : i ≠ j := fun e => hj (e ▸ h)
    rw [if_neg hj, if_neg hj, List.getElem?_set_ne hi]

/-! ### targets -/
theorem bindTs_len : ∀ (ts : List Tg) (ds : List D) (ρ ρ' : Rho), bindTs ts ds ρ = some ρ' → ts.length = ds.length
  | [], [], _, _, _ => rfl
  | [], _ :: _, _, _, h => by cases h
  | _ :: _, [], _, _, h => by cases h
  | t :: ts, d :: ds, ρ, ρ', h => by
    have h : (match bindT t d ρ with
      | some ρ' => bindTs ts ds ρ'
      | none => none) = some ρ' := h
    cases e : bindT t d ρ with
    | none =>
      rw [e] at h
      cases h
    | some ρ1 =>
      rw [e] at h
      rw [List.length_cons, List.length_cons, bindTs_len ts ds ρ1 ρ' h]
section
variable {g : Gx} {ct : CT} {W : WX} {X : Cx}
mutual
theorem tg_ok (cx : CxOk g ct W X) : ∀ (tg : Tg) (e : Expr), chkTg ct tg e = true → ∀ d ρ ρ', bindT tg d ρ = some ρ' → ∀ R F m μ σ H v (Q : St → Hp → Prop), SOk g.B R F m μ H → ROk g.B F m ρ σ → Rep g.B F m d v →
    (∀ σ', ROk g.B F m ρ' σ' → (∀ vs : List Nat, (∀ i ∈ tg.slots, i ∈ vs) → L2.wipe σ' vs = L2.wipe σ vs) → Q σ' H) → SG X e v σ H Q
  | .name i, e, h, d, ρ, ρ', hb, R, F, m, μ, σ, H, v, Q, so, ro, rv, q => by
    simp only [chkTg] at h
    split at h
    · rename_i x pos
      rw [Bool.and_eq_true] at h
      obtain ⟨h1, h2⟩ := h
      have h1 : ct.N[i]? = some x := of_decide_eq_true h1
      have hb : some (ρ.set i (some d)) = some ρ' := hb
      have hb := Option.some.inj hb
      subst hb
      have hloc : L2.Loc X.env.scope x ∧ (X.fn x = true ∨ X.env.scope.names.lookup x = some .local) := by
        rw [cx.sc]
        unfold L2.Loc
        split at h2
        · rename_i hl
          exact ⟨.inl hl, .inr hl⟩
        · rename_i hl
          exact ⟨.inr hl, .inl (cx.fn x h2)⟩
        · cases h2
      refine SG.of (pg_name (i := i) (by rw [cx.N]; exact cx.nd) (by rw [cx.N]; exact h1) hloc.1 hloc.2) ?_
      exact q _ (ro.set i rv) fun vs hs => wipe_set (hs i (List.mem_singleton.mpr rfl))
    · cases h
  | .tup ts, e, h, d, ρ, ρ', hb, R, F, m, μ, σ, H, v, Q, so, ro, rv, q => by
    simp only [chkTg] at h
    split at h
    · rename_i es k pos
      cases d with
      | tup ds =>
        have hb : bindTs ts ds ρ = some ρ' := hb
        obtain ⟨a, vs, rfl, hs, r⟩ := rv
        obtain ⟨l1, l2⟩ := asg_len (env := X.env) h
        refine SG.of (pg_tup cx.calm (pgs_sgs X es) l1 l2) ?_
        have hlen : ts.length = ds.length := bindTs_len ts ds ρ ρ' hb
        refine ⟨a, vs, rfl, cx.K ▸ seqT_mono so.sub hs, by rw [← r.length, hlen], ?_⟩
        exact tgs_ok cx ts es h ds ρ ρ' hb R F m μ σ H vs Q so ro r q
      | lst ds =>
        have hb : bindTs ts ds ρ = some ρ' := hb
        obtain ⟨a, vs, rfl, hs, r⟩ := rv
        obtain ⟨l1, l2⟩ := asg_len (env := X.env) h
        refine SG.of (pg_lst cx.calm (pgs_sgs X es) l1 l2) ?_
        have hlen : ts.length = ds.length := bindTs_len ts ds ρ ρ' hb
        refine ⟨a, vs, rfl, SqL.of (so.sub _ _ hs), by rw [← r.length, hlen], ?_⟩
        exact tgs_ok cx ts es h ds ρ ρ' hb R F m μ σ H vs Q so ro r q
      | _ => cases hb
    · cases h
theorem tgs_ok (cx : CxOk g ct W X) : ∀ (ts : List Tg) (es : List Expr), chkTgs ct ts es = true → ∀ ds ρ ρ', bindTs ts ds ρ = some ρ' → ∀ R F m μ σ H vs (Q : St → Hp → Prop), SOk g.B R F m μ H → ROk g.B F m ρ σ → RepL g.B F m ds vs →
    (∀ σ', ROk g.B F m ρ' σ' → (∀ vs : List Nat, (∀ i ∈ Tg.slotsL ts, i ∈ vs) → L2.wipe σ' vs = L2.wipe σ vs) → Q σ' H) → SGs X es vs σ H Q
  | [], es, h, ds, ρ, ρ', hb, R, F, m, μ, σ, H, vs, Q, so, ro, rv, q => by
    cases es with
    | nil =>
      cases ds with
      | nil =>
        have hb : some ρ = some ρ' := hb
        have hb := Option.some.inj hb
        subst hb
        have rv : vs = [] := rv
        subst rv
        exact SGs.of pgs_nil ⟨rfl, q σ ro fun _ _ => rfl⟩
      | cons _ _ => cases hb
    | cons _ _ => cases h
  | t :: ts, es, h, ds, ρ, ρ', hb, R, F, m, μ, σ, H, vs, Q, so, ro, rv, q => by
    cases es with
    | nil => cases h
    | cons e r =>
      have h : (notStar e && chkTg ct t e && chkTgs ct ts r) = true := h
      simp only [Bool.and_eq_true] at h
      cases ds with
      | nil => cases hb
      | cons d ds =>
        obtain ⟨v, us, rfl, r1, r2⟩ := rv
        have hb : (match bindT t d ρ with
          | some ρ' => bindTs ts ds ρ'
          | none => none) = some ρ' := hb
        cases e1 : bindT t d ρ with
        | none =>
          rw [e1] at hb
          cases hb
        | some ρ1 =>
          rw [e1] at hb
          refine SGs.of (pgs_cons (pg_sg X e) (pgs_sgs X r) (by rw [asg_cons h.1.1]; rfl)) ⟨v, us, rfl, ?_⟩
          refine tg_ok cx t e h.1.2 d ρ ρ1 e1 R F m μ σ H v _ so ro r1 fun σ1 ro1 w1 => ?_
          refine tgs_ok cx ts r h.2 ds ρ1 ρ' hb R F m μ σ1 H us Q so ro1 r2 fun σ2 ro2 w2 => ?_
          refine q σ2 ro2 fun vs hs => ?_
          have hs : ∀ i ∈ t.slots ++ Tg.slotsL ts, i ∈ vs := hs
          exact (w2 vs fun i hi => hs i (List.mem_append_right _ hi)).trans (w1 vs fun i hi => hs i (List.mem_append_left _ hi))
end
end
end Sg
/-! SgE1: an exception of an own class directly over a built-in one, whose __init__ calls the built-in one's and stores one attribute. -/
namespace Sg
open PySem PySem.Spec PyProof.Rows L2
/-- the first attribute of an exception: its dict is made -/
theorem osa_any {P : Program} {w : World} {A : Around} {R : Result → Shared → Prop} {hp : Heap} {g : Array GenState} {d : Drawn} {t : Nat} {os : OsState} {B nI iI : String} {tl : List Value} (Bs : BsOk B nI iI tl)
    {K : PySem.W.Frag} {nm : Str} {tk : Tok} {v : Value} {x C : Addr} {fv : Array Value} {cd : ClassData} (KX : K.In hp) (hx : hp.get? x = some { cls := .ref C, data := .fields fv }) (hcd : PySem.W.clsIn K C = some cd) (hm : cd.mro = .ref C :: tl) (hh : cd.hasDict = true)
    (ha : PySem.W.findIn K (.ref C) nm = some none)
    (hq : ∀ h' tk' dx, (∀ b o, b ≠ x → hp.get? b = some o → h'.get? b = some o) → hp.objs.size ≤ dx → dx ≠ x → h'.get? x = some { cls := .ref C, dict := some dx, data := .fields fv } →
      h'.Ns1 dx (fun y => if y = nm then some v else none) → R (.ok (.ret .none)) ⟨h', g, d, tk', os⟩) :
    codeAny (model P w) A (.call (.builtin "object.__setattr__") ⟨[.ref x, .str nm tk, v], []⟩) R ⟨hp, g, d, t, os⟩ := by
  have Ix : PySem.W.InstAt hp x { cls := .ref C, data := .fields fv } C none := ⟨hx, rfl, rfl, trivial⟩
  have so := F.store_object
  have hob : cd.mro.contains (.type "object") = true := by
    rw [hm, List.contains_cons, Bs.obj, Bool.or_true]
  have ne : cd.mro.isEmpty = false := by rw [hm]; rfl
  have nx : x ≠ hp.objs.size := Nat.ne_of_lt (Heap.lt_size hx)
  have sub : PySem.W.Looks (model P w) hp (isInstance (.ref x) (.type "object")) true := Ix.type.andThen (PySem.W.looks_mroIn KX (by unfold PySem.W.mroIn; rw [hcd, Option.bind_some, if_neg (by rw [ne]; decide), hob]))
  refine codeAny_call_builtin so.slot.plain so.entry (@PySem.W.check_slot (model P w) _ _ ⟨hp, g, d, t, os⟩ "object.__setattr__" "object" "__setattr__" (.ref x) [.str nm tk, v] [] _ so.kind so.split sub (so.args (.ref x) (.str nm tk) v) ?_)
  have lm : PySem.W.Looks (model P w) hp (mroOf (.ref C)) cd.mro := (PySem.W.looks_clsIn KX hcd).andThen .now
  have ls : PySem.W.Looks (model P w) hp (Builtin.ObjectAttr.storeTaker? none) none := .now
  have lc : PySem.W.Looks (model P w) hp (classData C) cd := PySem.W.looks_clsIn KX hcd
  rw [PySem.W.osa_eq, refuse_eq]
  refine wpAny_bind (wpAny_bind (Ix.type.at (wpAny_bind (lm.at ?_))))
  rw [hm, refuseLoop_ref, Bs.pass]
  refine wpAny_pure (wpAny_bind (Ix.type.at (wpAny_bind ((PySem.W.looks_findIn KX ha).at (wpAny_bind (ls.at ?_))))))
  show wpAny _ _ (Builtin.ObjectAttr.storeInOwnDict (.ref x) (.ref C) (.str nm tk) nm v false) _ _ _
  obtain ⟨c1, c2, c3, c4, c5, c6, c7, c8, c9, c10, c11⟩ := cd
  dsimp only at hh
  subst hh
  unfold Builtin.ObjectAttr.storeInOwnDict Builtin.ObjectAttr.ownDictForStores
  repeat (first | with_reducible refine PySem.HandSPX.store_in_new ?_ ?_ | with_reducible refine wpAny_loadPart_at hx ?_ | with_reducible refine lc.at ?_ | wp_step)
  · exact ⟨_, #[], _, (Heap.get?_update_ne _ _ _ _ nx.symm).trans (Heap.get?_push_at rfl rfl), rfl, fun e he => absurd he (by simp), fun _ => rfl⟩
  · intro g1 tk1 n1 s1
    have x1 : (hp.push { cls := .type "dict", data := .dict #[] }).get? x = some { cls := .ref C, data := .fields fv } := Heap.get?_push_of_some _ hx
    exact hq g1 tk1 hp.objs.size (fun b o hb ho => (s1.2 b (Nat.ne_of_lt (Heap.lt_size ho))).trans ((Heap.get?_update_ne _ _ _ _ hb).trans (Heap.get?_push_of_some _ ho))) (Nat.le_refl _) nx.symm ((s1.2 x nx).trans (Heap.get?_update_self _ x1 rfl)) n1
section
variable {X : Cx} {pins : List (Addr × Obj)} {σ : L2.St} {H : Hp} {s : Shared} {a C : Addr} {f : Str} {y : V} {u : Value} {Q : Unit → Shared → Prop} {E : Value → Shared → Prop} {A : Around} {B nI iI : String} {tl : List Value}
/-- self.f = y, upon an exception that has no attribute yet -/
theorem ox_set (Bs : BsOk B nI iI tl) (T : OxC X.K C nI tl) (I : L2.Inv X pins σ H s) (e : H a = some (exo a C none)) (hno : PySem.W.findIn X.K (.ref C) f = some none) (ry : RelV y u)
    (h : ∀ dx s', H dx = none → dx ≠ a → L2.Inv X pins σ (upd (upd H dx (exd dx [(f, y)])) a (exo a C (some dx))) s' → Q () s') : wpAny (model X.prog X.w) A (setAttr (.ref a) f u) Q E s := by
  obtain ⟨nm, q, N, bs, sn, sub, ab, col, dd, k0, k1, k2, k3, k5, hC⟩ := T.cls
  have hcl : PySem.W.clsIn X.K C = some { name := nm, bases := bs, mro := .ref C :: tl, ns := N, qualname := q, hasDict := true, slotNames := sn, subclasses := sub, abstract := ab, collection := col, hasDel := false } := by
    unfold PySem.W.clsIn
    rw [hC]
  obtain ⟨t1, ho⟩ := exo_at I.hok e
  obtain ⟨hp, g, d, t, os⟩ := s
  refine PySem.W.set_plain I.kIn (ox := { cls := .ref C, dict := none, data := .fields #[.ref t1, .none, .none, .none, .bool false, .none] }) (od := none) ⟨ho, rfl, rfl, trivial⟩ T.sa ?_
  refine osa_any Bs I.kIn ho hcl rfl rfl hno fun g1 tk1 dx kk dn dne hx hn => ?_
  have fd : H dx = none := I.hok.fresh dn
  have old : ∀ {b : Addr} {o : Obj}, hp.get? b = some o → b ≠ dx := fun {b o} q => Nat.ne_of_lt (Nat.lt_of_lt_of_le (Heap.lt_size q) dn)
  have oth : ∀ {b : Addr}, H b = none → b ≠ a := fun {b} n z => by
    rw [z, e] at n
    cases n
  have U : Un X.fs [] H (upd (upd H dx (exd dx [(f, y)])) a (exo a C (some dx))) hp g1 := by
    refine ⟨fun b o q n _ _ => kk b o (oth n) q, fun b o q n _ _ => ⟨o.slots, kk b o (oth n) q⟩, fun b o q n _ => ?_, fun b o q _ => ?_, fun b xs q => ?_, fun b o v q => ?_, fun b ps q => ⟨#[], ?_⟩⟩
    · rw [upd_ne (oth n), upd_ne (old q)]
      exact n
    · by_cases hb : b = a
      · exact ⟨_, hb ▸ hx⟩
      · exact ⟨o, kk b o hb q⟩
    · rw [upd_ne (L2.at_ne e q exo_tup), upd_ne (ne_of_none q fd)]
      exact q
    · rw [upd_ne (L2.at_ne e q exo_frz), upd_ne (ne_of_none q fd)]
      exact q
    · rw [upd_ne (L2.at_ne e q exo_tbl), upd_ne (ne_of_none q fd), q]
      simp
  refine h dx _ fd dne (I.un (t' := tk1) U fun b o q => ?_)
  by_cases hb : b = a
  · subst hb
    rw [upd_same] at q
    cases q
    exact exo_ok hx
  · rw [upd_ne hb] at q
    by_cases hd : b = dx
    · subst hd
      rw [upd_same] at q
      cases q
      exact exd_ok hn (relO_put (fs := []) ry fun g => True.intro)
    · rw [upd_ne hd] at q
      refine (I.hok b o q).stay (fun c v hc z => kk c v ?_ z) (fun c hc => ?_) fun c xs hc => ?_
      · exact hc.elim (fun hc => hc ▸ hb) fun hc => L2.at_ne e hc exo_own
      · rw [upd_ne (L2.at_ne e hc exo_own), upd_ne (ne_of_none hc fd)]
        exact hc
      · rw [upd_ne (L2.at_ne e hc exo_tup), upd_ne (ne_of_none hc fd)]
        exact hc
/-- B.__init__(self, ..) -/
theorem ox_init {us : List Value} {Q : Value → Shared → Prop} (Bs : BsOk B nI iI tl) (T : OxC X.K C nI tl) (I : L2.Inv X pins σ H s) (e : H a = some (exo a C none)) (hl : us.length ≤ sizeLine) (h : ∀ s', L2.Inv X pins σ H s' → Q .none s') :
    wpAny (model X.prog X.w) A (call (.builtin iI) (.ref a :: us)) Q E s := by
  obtain ⟨nm, q, N, bs, sn, sub, ab, col, dd, k0, k1, k2, k3, k5, hC⟩ := T.cls
  obtain ⟨t1, ho⟩ := exo_at I.hok e
  obtain ⟨hp, g, d, t, os⟩ := s
  refine wpAny_call (PySem.HandSPX.init_base Bs.F (fun _ => rfl) (I.kIn _ _ hC) ho hl fun g1 t2 kk hx => ?_)
  have J := I.write (t' := t) (x := a) (e := a) (o := exo a C none) (by rw [e]; exact True.intro) (.inl rfl) kk ⟨_, hx⟩ (exo_ok hx)
  have eu : upd H a (exo a C none) = H := funext fun b => by
    by_cases hb : b = a
    · rw [hb, upd_same, e]
    · rw [upd_ne hb]
  rw [eu] at J
  exact h _ J
end
/-- B.__init__(self, e) as an expression -/
def tBi (K : PySem.W.Frag) (nI : String) (tl : List Value) (ta : TA) : TE := fun σ H Q => ta σ H fun vs H1 => ∃ (a C : Addr) (ws : List V), vs = .ref a :: ws ∧ ws.length ≤ 1000 ∧ OxC K C nI tl ∧ H1 a = some (exo a C none) ∧ Q .non H1
def tSt (K : PySem.W.Frag) (nI : String) (tl : List Value) (f : Str) (to te : TE) : TS := fun D σ H => te σ H fun y H1 => to σ H1 fun x H2 => ∃ a C : Addr, x = .ref a ∧ OxC K C nI tl ∧ PySem.W.findIn K (.ref C) f = some none ∧
  H2 a = some (exo a C none) ∧ ∀ dx, H2 dx = none → dx ≠ a → D.nx σ (upd (upd H2 dx (exd dx [(f, y)])) a (exo a C (some dx)))
section
variable {X : Cx} {o e : Expr} {es : List Expr} {to te : TE} {ta : TA} {f : Str} {p p' p1 p2 pos : Pos} {B nI iI : String} {tl : List Value}
theorem pe_binit {pl : Sem Bool} (Bs : BsOk B nI iI tl) (hg : Gl X (Str.ofString B)) (hm : X.mg (Str.ofString B) = none) (vV : PySem.W.findCls X.K (.type B) (.type "type") "__init__" = some (.val (.builtin iI))) (ha : PA X (e :: es) ta)
    (hc : eval (.Call (.Attribute (.Name (Str.ofString B) p1) "__init__" p2) (e :: es) [] pos) X.env = (do
      let ov ← eval (.Name (Str.ofString B) p1) X.env
      standAt p2.atName
      let (f, first) ← holding [ov] (getMethod ov "__init__" pl)
      callWith pos f first (backTo pos (starEach (e :: es) X.env)) (backToKw pos (keywordEach [] X.env))))
    (he : starEach (e :: es) X.env = (false, eval e X.env) :: starEach es X.env) (hpl : (backTo pos (starEach es X.env)).any (·.1) = false) :
    PE X (.Call (.Attribute (.Name (Str.ofString B) p1) "__init__" p2) (e :: es) [] pos) (tBi X.K nI tl ta) := by
  refine ⟨fun pins s σ H Q I h => PySem.W.methodCall_KW (ld_blt I hg hm Bs.boot ?_ Bs.nn Bs.nd) hc⟩
  obtain ⟨m, fr⟩ := I.fr
  refine PySem.W.method_type fr I.ok.mod.kin Bs.typ Bs.stub vV Bs.hand ?_
  show wpAny _ _ (callWith pos (Value.builtin iI) [] (backTo pos (starEach (e :: es) X.env)) []) _ _ _
  refine PyProof.Rows.callWith_method1 (thn (ha.run pos pins _ σ H _ (I.tok _) h) fun us s1 ⟨vs, H1, I1, r1, a, C, ws, ev, hl, T, ea, q⟩ => ?_) he hpl
  subst ev
  cases r1 with
  | @cons _ u0 _ ur ra rw' =>
    obtain rfl : u0 = Value.ref a := ra
    exact ox_init Bs T I1 ea (by rw [← Paired.length rw', sizeLine_eq]; omega) fun s' J => ⟨.non, H1, J, rfl, q⟩
theorem ps_ox (Bs : BsOk B nI iI tl) (ho : PE X o to) (he : PE X e te) (hs : swapsWith e (some (.Attribute o f p')) pos.line X.env = pure false) : PS X (.Assign [.Attribute o f p'] e pos) (tSt X.K nI tl f to te) := by
  refine ⟨fun pins s σ H D I h => plainObj_wpAny_Assign_Attribute (thn (he.run pins s σ H _ I h) fun v s1 ⟨y, H1, I1, r1, q1⟩ => thn (ho.run pins s1 σ H1 _ I1 q1) fun u s2 ⟨x, H2, I2, r2, a, C, ex, T, hno, ea, q⟩ => ?_) hs⟩
  subst ex
  obtain rfl : u = Value.ref a := r2
  exact ox_set Bs T I2 ea hno r1 fun dx s' n ne J => ⟨σ, _, J, q dx n ne⟩
end
/-- C(e), the class's own __init__ as promised -/
theorem pmk_ox {X : Cx} {e : Expr} {te : TE} {p pos : Pos} {B nI iI : String} {tl : List Value} {x f : Str} {C fI : Addr} {k : Nat} (Bs : BsOk B nI iI tl) (T : OxC X.K C nI tl) (iC : PySem.W.findIn X.K (.ref C) "__init__" = some (some (.ref fI)))
    (tI : PySem.W.typeIn X.K (.ref fI) = some (.type "function")) (FI : FnP false X.prog X.w X.K X.mg X.base k fI (spIni C f)) (hr : Room (k + 1) X.A) (hg : Gl X x) (hm : X.mg x = some (.ref C)) (he : PE X e te) (hs : notStar e = true) (hd : (x == ("__debug__" : Str)) = false) (hx : ∀ pins σ H s er s', L2.Inv X pins σ H s → L2.CX X.prog X.w X.stack H s (fun _ _ _ => False) er s' → X.xe er s') :
    PMk X (.Call (.Name x p) [e] [] pos) (fun σ H Q => te σ H fun v H1 => ∃ v', [v] = [v'] ∧ ∀ dx, H1 dx = none → Q (.ref C) (some dx) (upd H1 dx (.xd [(f, v')]))) := by
  intro pins s σ H Q I h
  obtain ⟨nm, q, N, bs, sn, sub, ab, col, dd, k0, k1, k2, k3, k5, hC⟩ := T.cls
  have ha : PA X [e] (tCons te tNil) := pa_cons he pa_nil (star_cons hs _ _)
  refine wpAny_Call_Name_kw (ld_glob I hg hm ?_ hd)
  refine PySem.W.callWith_K (h₀ := X.base) I.ok.mod.kin T.kp (thn (ha.run pos pins s σ H (fun vs H1 => ∃ v, vs = [v] ∧ ∀ dx, H1 dx = none → Q (.ref C) (some dx) (upd H1 dx (.xd [(f, v)]))) I h) fun us s1 ⟨vs, H1, I1, r1, v, ev, q1⟩ => ⟨I1.kIn, ?_⟩) (star_cons hs _ _) rfl
  subst ev
  show wpAny _ _ (call (.ref C) us) _ _ _
  obtain ⟨hp, g, dr, tk, os⟩ := s1
  have le1 : hp.objs.size ≤ hp.objs.size + 1 := Nat.le_succ _
  have hn : H1 (hp.objs.size + 1) = none := I1.hok.fresh le1
  have kk : ∀ b o, hp.get? b = some o → ((hp.push (PySem.W.kdv_tup us)).push (PySem.HandSPX.excO C hp.objs.size)).get? b = some o := fun b o e => Heap.get?_push_of_some _ (Heap.get?_push_of_some _ e)
  have hget : ((hp.push (PySem.W.kdv_tup us)).push (PySem.HandSPX.excO C hp.objs.size)).get? (hp.objs.size + 1) = some (PySem.HandSPX.excO C hp.objs.size) := by heap_get
  have I2 : L2.Inv X pins σ (upd H1 (hp.objs.size + 1) (exo (hp.objs.size + 1) C none)) ⟨(hp.push (PySem.W.kdv_tup us)).push (PySem.HandSPX.excO C hp.objs.size), g, dr, tk, os⟩ := I1.laid (t' := tk) (a := hp.objs.size + 1) (o := exo (hp.objs.size + 1) C none) (h' := (hp.push (PySem.W.kdv_tup us)).push (PySem.HandSPX.excO C hp.objs.size)) kk le1 (exo_ok hget)
  have r2 : Vals [V.ref (hp.objs.size + 1), v] (Value.ref (hp.objs.size + 1) :: us) := .cons rfl r1
  have hus : us.length ≤ sizeLine := by
    rw [← Paired.length r1]
    show 1 ≤ sizeLine
    decide
  refine wpAny_call (PySem.HandSPX.call_own Bs.F (fun _ => rfl) (I1.kIn _ _ hC) (PySem.W.looks_findIn I1.kIn iC) (fun self => PySem.W.bind_fn I1.kIn self tI) hus
    (codeAny_mono (FI _ X.stack _ _ (Value.ref (hp.objs.size + 1) :: us) _ (fun v' H2 => v' = .non ∧ ∃ d, H2 (hp.objs.size + 1) = some (exo (hp.objs.size + 1) C (some d)) ∧ H2 d = some (exd d [(f, v)]) ∧ H1 d = none ∧ Q (.ref C) (some d) (upd (L2.del H2 (hp.objs.size + 1)) d (.xd [(f, v)]))) (fun _ _ _ => False) (hr.make C us []) (fun z => by cases z) (I2.env0.make C us []) r2 ⟨hp.objs.size + 1, v, rfl, upd_same, fun dx nx ne => ?_⟩) fun r s' hq' => ?_))
  · have n1 : H1 dx = none := by
      rw [upd_ne ne] at nx
      exact nx
    refine ⟨rfl, dx, upd_same, by rw [upd_ne ne, upd_same], n1, ?_⟩
    have e1 : upd (L2.del (upd (upd (upd H1 (hp.objs.size + 1) (exo (hp.objs.size + 1) C none)) dx (exd dx [(f, v)])) (hp.objs.size + 1) (exo (hp.objs.size + 1) C (some dx))) (hp.objs.size + 1)) dx (.xd [(f, v)]) = upd H1 dx (.xd [(f, v)]) := funext fun b => by
      by_cases hb : b = dx
      · rw [hb, upd_same, upd_same]
      · rw [upd_ne hb, upd_ne hb]
        by_cases hb2 : b = hp.objs.size + 1
        · rw [hb2, del_same, hn]
        · rw [del_ne hb2, upd_ne hb2, upd_ne hb, upd_ne hb2]
    rw [e1]
    exact q1 dx n1
  · cases r with
    | error er => exact hx pins σ _ _ er s' I2 hq'
    | ok fl =>
      cases fl with
      | ret u =>
        obtain ⟨w', H2, os2, bare2, un2, hok2, rv, ev, d, ea, ed, hd1, q2⟩ := hq'
        subst ev
        obtain ⟨h2, g2, d2, t2, os'⟩ := s'
        exact ⟨rv, mk_end (raises_own T.ex T.ty) I1 le1 kk un2 hok2 os2 bare2 ea ed hd1 q2⟩
      | next => exact False.elim hq'
      | brk => exact False.elim hq'
      | cont => exact False.elim hq'
end Sg
/-! Sg7: the rules for each form of expression. -/
namespace Sg
open PySem L2
section
variable {g : Gx} {ct : CT} {W : WX} {X : Cx} {T : Tab}

theorem up_post {α : Type} {B : Bk} {R : Hp} {W : WX} {σ : St} {F : Hp} {m : List Addr} {μ : Store} {H : Hp} {o : Option α} {r : Except Exc α × Store} {K : Hp → List Addr → Hp → α → Prop} (h : up o μ = some r) (p : Post B R W σ F m r K) (so : SOk B R F m μ H) :
    ∃ a, o = some a ∧ K F m H a := by
  obtain ⟨a, e, rfl⟩ := up_some h
  exact ⟨a, e, p F m H (Grow.refl F m) so⟩
theorem frz_ok {B : Bk} {R F : Hp} {m : List Addr} {μ : Store} {H : Hp} {d : D} {v : V} {r : Except Exc D × Store} (h : frzD d μ = some r) (so : SOk B R F m μ H) (rv : Rep B F m d v) :
    ∃ d' μ' F', r = (.ok d', μ') ∧ Grow F m F' m ∧ SOk B R F' m μ' H ∧ Rep B F' m d' v := by
  unfold frzD at h
  split at h
  · rename_i k
    obtain ⟨a, ea, rfl⟩ := rv
    split at h
    · rename_i xs hk
      obtain ⟨hF, o, ho, vs, rfl, rr⟩ := so.live hk ea fun _ => nofun
      have g0 : Grow F m (upd F a (.lst vs)) m := Grow.new hF
      have rp : Rep B (upd F a (.lst vs)) m (.lst xs) (.ref a) := ⟨a, vs, rfl, upd_same, RepL.mono g0 _ _ rr⟩
      obtain ⟨gr, so'⟩ := so.freeze (d := .lst xs) ea hF ho (so.nr _ _ hk) rp
      exact ⟨_, _, _, (Option.some.inj h).symm, gr, so', rp⟩
    · rename_i d hk
      obtain ⟨b, eb, hc⟩ := so.cell _ _ hk
      rw [ea] at eb
      cases eb
      rcases hc with ⟨d', e, rp, _⟩ | ⟨_, _, _, z⟩
      · cases e
        exact ⟨_, _, _, (Option.some.inj h).symm, Grow.refl F m, so, rp⟩
      · exact z.elim
    · exact ⟨_, _, _, (Option.some.inj h).symm, Grow.refl F m, so, a, ea, rfl⟩
    · exact ⟨_, _, _, (Option.some.inj h).symm, Grow.refl F m, so, a, ea, rfl⟩
    · rename_i ks xs hk
      obtain ⟨hF, o, ho, vs, rfl, hl, rr⟩ := so.live hk ea fun _ => nofun
      have g0 : Grow F m (upd F a (.dK (ks.zip vs))) m := Grow.new hF
      have rp : Rep B (upd F a (.dK (ks.zip vs))) m (.dic ks xs) (.ref a) := ⟨a, vs, rfl, upd_same, hl, RepL.mono g0 _ _ rr⟩
      obtain ⟨gr, so'⟩ := so.freeze (d := .dic ks xs) ea hF ho (so.nr _ _ hk) rp
      exact ⟨_, _, _, (Option.some.inj h).symm, gr, so', rp⟩
    · cases h
  · exact ⟨_, _, _, (Option.some.inj h).symm, Grow.refl F m, so, rv⟩
theorem chkV_of {i : Nat} {x : Str} (cx : CxOk g ct W X) (h : chkV ct i x = true) : X.N[i]? = some x ∧ Vis X.env.scope x ∧ (x == ("__debug__" : Str)) = false ∧ (x == ("__classdict__" : Str)) = false := by
  unfold chkV at h
  simp only [Bool.and_eq_true, Bool.not_eq_true'] at h
  obtain ⟨⟨⟨h1, h2⟩, h3⟩, h4⟩ := h
  refine ⟨by rw [cx.N]; exact of_decide_eq_true h1, ?_, h3, h4⟩
  rw [cx.sc]
  split at h2
  · rename_i e
    exact .inl e
  · rename_i e
    exact .inr (.inl e)
  · rename_i e
    exact .inr (.inr e)
  · cases h2
theorem chkG_of {x : Str} (cx : CxOk g ct W X) (h : chkG ct x = true) : Gl X x ∧ (x == ("__debug__" : Str)) = false := by
  unfold chkG at h
  simp only [Bool.and_eq_true, Bool.not_eq_true'] at h
  refine ⟨?_, h.2⟩
  show X.env.scope.names.lookup x = _
  rw [cx.sc]
  exact of_decide_eq_true h.1

/-- something that is worth a constant -/
theorem je_c {e : Expr} {d : D} {v : V} {f : Rho → M D} (he : PE X e (tC v)) (hf : ∀ ρ, f ρ = rt d) (hr : ∀ F m, Rep g.B F m d v) : JE g W X e f := by
  intro ρ μ r h R F m σ H Q so ro po
  rw [hf] at h
  have e := rt_some h
  subst e
  exact SE.of he (po F m H (Grow.refl F m) so v (hr F m))
theorem je_var (cx : CxOk g ct W X) {i : Nat} {x : Str} {pos : Pos} (hv : chkV ct i x = true) : JE g W X (.Name x pos) (evalE T (.var i)) := by
  intro ρ μ r h R F m σ H Q so ro po
  obtain ⟨h1, h2, h3, h4⟩ := chkV_of cx hv
  obtain ⟨d, hd, h⟩ : ∃ d, ρ[i]? = some (some d) ∧ frzD d μ = some r := by
    simp only [evalE] at h
    cases e : ρ[i]? with
    | none =>
      rw [e] at h
      cases h
    | some o =>
      cases o with
      | none =>
        rw [e] at h
        cases h
      | some d =>
        rw [e] at h
        exact ⟨d, rfl, h⟩
  obtain ⟨v, e, rv⟩ := ro.val i d hd
  obtain ⟨d', μ', F', rfl, gr, so', rv'⟩ := frz_ok h so rv
  exact SE.of (pe_var h1 h2 h3 h4) ⟨v, e, po F' m H gr so' v rv'⟩
theorem je_raw (cx : CxOk g ct W X) {i : Nat} {x : Str} {pos : Pos} (hv : chkV ct i x = true) : JE g W X (.Name x pos) (evalE T (.raw i)) := by
  intro ρ μ r h R F m σ H Q so ro po
  obtain ⟨h1, h2, h3, h4⟩ := chkV_of cx hv
  obtain ⟨d, hd, h⟩ : ∃ d, ρ[i]? = some (some d) ∧ rt d μ = some r := by
    simp only [evalE] at h
    cases e : ρ[i]? with
    | none =>
      rw [e] at h
      cases h
    | some o =>
      cases o with
      | none =>
        rw [e] at h
        cases h
      | some d =>
        rw [e] at h
        exact ⟨d, rfl, h⟩
  obtain ⟨v, e, rv⟩ := ro.val i d hd
  have e1 := rt_some h
  subst e1
  exact SE.of (pe_var h1 h2 h3 h4) ⟨v, e, po F m H (Grow.refl F m) so v rv⟩
theorem je_gcon (cx : CxOk g ct W X) (fo : FnsOk g T ct.nm) {i : Nat} {x : Str} {pos : Pos} (hg : chkG ct x = true) (hx : ct.nm.cons[i]? = some x) : JE g W X (.Name x pos) (evalE T (.gcon i)) := by
  intro ρ μ r h R F m σ H Q so ro po
  obtain ⟨g1, g2⟩ := chkG_of cx hg
  simp only [evalE] at h
  obtain ⟨d, e, k⟩ := up_post h po so
  obtain ⟨u, v, m1, m2, m3⟩ := fo.con i d x e hx
  exact SE.of (pe_glob g1 (by rw [cx.mg]; exact m1) m2 g2) (k v (m3 F m))
/-- an operator by values, at these slots -/
def SBs (X : Cx) (σ : St) (f : Value → Value → Sem Value) : R2 := fun x y H Q => ∀ (pins : List (Addr × Obj)) (s : Shared) (v u : Value), L2.Inv X pins σ H s → RelV x v → RelV y u → wpAny (model X.prog X.w) X.A (f v u) (EP X pins σ Q) X.xe s
def tBs (X : Cx) (f : Value → Value → Sem Value) (ta tb : TE) : TE := fun σ H Q => ta σ H fun x H1 => tb σ H1 fun y H2 => SBs X σ f x y H2 Q
theorem pe_bins {a b : Expr} {ta tb : TE} {op : Operator} {pos : Pos} (ha : PE X a ta) (hb : PE X b tb) : PE X (.BinOp a op b pos) (tBs X (binaryOp op) ta tb) :=
  ⟨fun pins s σ H Q I h => wpAny_BinOp (L2.binT ha hb I h fun v u s2 x y H2 I2 rx ry q => q pins s2 v u I2 rx ry)⟩
theorem pe_cmps {a b : Expr} {ta tb : TE} {op : CmpOp} {pos : Pos} (ha : PE X a ta) (hb : PE X b tb) (hm : behindInMarks op b = false) : PE X (.Compare a [op] [b] pos) (tBs X (compareOp op) ta tb) :=
  ⟨fun pins s σ H Q I h => wpAny_Compare1 (L2.binT ha hb I h fun v u s2 x y H2 I2 rx ry q => q pins s2 v u I2 rx ry) hm⟩
theorem pt_cmps {a b : Expr} {ta tb : TE} {op : CmpOp} {pos : Pos} (ha : PE X a ta) (hb : PE X b tb) (hm : behindInMarks op b = false) : PT X (.Compare a [op] [b] pos) (tTest (tBs X (compareOp op) ta tb)) :=
  ⟨fun pins s σ H Q I h => wpAny_isTrue_Compare1 (L2.binT ha hb I h (f := fun v u => compareOp op v u) fun v u s2 x y H2 I2 rx ry q => wpAny_mono (q pins s2 v u I2 rx ry) (fun c s3 ⟨z, H3, I3, r3, k, e, q3⟩ => by
    subst e
    cases r3
    exact wpAny_truthy_bool ⟨H3, I3, q3⟩) fun _ _ x => x) hm⟩
theorem pe_sxs {a b : Expr} {ta tb : TE} {pos : Pos} (ha : PE X a ta) (hb : PE X b tb) : PE X (.Subscript a b pos) (tBs X (PyProof.Rows.subscriptTail a b) ta tb) :=
  ⟨fun pins s σ H Q I h => PyProof.Rows.Subscript_ (L2.binT ha hb I h fun v u s2 x y H2 I2 rx ry q => q pins s2 v u I2 rx ry)⟩
/-- an object by its data -/
theorem ins_at {B : Bk} {R F : Hp} {m : List Addr} {μ : Store} {H : Hp} (so : SOk B R F m μ H) {c : Nat} {fs : List D} {d : D} {v : V} (h : objOf μ d = some (c, fs)) (rv : Rep B F m d v) :
    ∃ a C dx ns vs, v = .ref a ∧ B.cls[c]? = some (C, ns) ∧ H a = some (.ins C dx (ns.zip vs)) ∧ RepL B F m fs vs ∧ fs.length ≤ ns.length := by
  unfold objOf at h
  split at h
  · cases h
    obtain ⟨a, C, dx, ns, vs, rfl, hc, hl, hF, rr⟩ := rv
    exact ⟨a, C, dx, ns, vs, rfl, hc, so.sub _ _ hF, rr, by rw [rr.length, hl]; exact Nat.le_refl _⟩
  · obtain ⟨a, ea, rfl⟩ := rv
    split at h
    · rename_i hk
      cases h
      obtain ⟨_, o, ho, C, dx, ns, vs, rfl, hc, hl, rr⟩ := so.live hk ea fun _ => nofun
      exact ⟨a, C, dx, ns, vs, rfl, hc, ho, rr, hl⟩
    · cases h
  · cases h
theorem opN_at (fo : FnsOk g T ct.nm) {R F : Hp} {m : List Addr} {μ : Store} {H : Hp} (so : SOk g.B R F m μ H) {x : Str} {d : D} {f : Nat} {v : V} (h : opN T μ x d = some f) (rv : Rep g.B F m d v) :
    ∃ c fs a C dx fv cl, d = .ins c fs ∧ v = .ref a ∧ T.cls[c]? = some cl ∧ g.B.cls[c]? = some (C, cl.fs) ∧ ClOk g.B.K C cl g.fa ∧ H a = some (.ins C dx fv) ∧ ∃ fa, g.fa[f]? = some fa ∧ Meth g.B.K C x fa ∧ PySem.W.fnIn g.B.K fa = true := by
  unfold opN at h
  split at h
  · rename_i c fs
    cases e : T.cls[c]? with
    | none =>
      rw [e] at h
      cases h
    | some cl =>
      rw [e] at h
      have h : cl.ms.lookup x = some f := h
      obtain ⟨C, hC, ok⟩ := fo.cl c cl e
      obtain ⟨a, C', dx, ns, vs, rfl, hc, _, hF, _⟩ := rv
      rw [hC] at hc
      cases hc
      obtain ⟨fa, hfa, _, hM⟩ := ok.ms x f h
      exact ⟨c, fs, a, C, dx, _, cl, rfl, rfl, e, hC, ok, so.sub _ _ hF, fa, hfa, hM⟩
  · cases h
theorem same_cls {x y : D} (h : sameC x y = true) : ∃ c fs gs, x = .ins c fs ∧ y = .ins c gs := by
  unfold sameC at h
  split at h
  · have e := eq_of_beq h
    subst e
    exact ⟨_, _, _, rfl, rfl⟩
  · cases h
theorem binT_ok (cx : CxOk g ct W X) (fo : FnsOk g T ct.nm) {op : Operator} {x y : D} {v u : V} {μ : Store} {r : Except Exc D × Store} {R F : Hp} {m : List Addr} {σ : St} {H : Hp} {Q : VK} (h : binT T op x y μ = some r)
    (so : SOk g.B R F m μ H) (rx : Rep g.B F m x v) (ry : Rep g.B F m y u) (po : Post g.B R W σ F m r (QE g Q)) : ∀ (pins : List (Addr × Obj)) (s : Shared) (v' u' : Value), L2.Inv X pins σ H s → RelV v v' → RelV u u' → wpAny (model X.prog X.w) X.A (binaryOp op v' u') (EP X pins σ Q) X.xe s := by
  unfold binT at h
  split at h
  · rename_i hs
    obtain ⟨c, fs, gs, rfl, rfl⟩ := same_cls hs
    split at h
    · rename_i f hf
      obtain ⟨nm, en, hf⟩ := Option.bind_eq_some_iff.mp hf
      obtain ⟨c', fs', a, C, dx, fv, cl, e1, rfl, e2, e3, ok, ha, fa, hfa, hM, hfn⟩ := opN_at fo so hf rx
      cases e1
      obtain ⟨b, C', dy, ns', ws, rfl, hc', _, hb, _⟩ := id ry
      rw [e3] at hc'
      cases hc'
      intro pins s v' u' I rv ru
      cases (show v' = Value.ref a from rv)
      cases (show u' = Value.ref b from ru)
      obtain ⟨mA, O, _⟩ := ins_get I.hok ha
      obtain ⟨od, J, _⟩ := O.look
      obtain ⟨mB, O', _⟩ := ins_get I.hok (so.sub _ _ hb)
      obtain ⟨od', J', _⟩ := O'.look
      obtain ⟨mf, hF⟩ := I.fr
      have run := call_run cx fo hfa h so ⟨.ref a, [.ref b], rfl, rx, .ref b, [], rfl, ry, rfl⟩ po pins s [.ref a, .ref b] I (.cons rfl (.cons rfl .nil))
      have hnm : PySem.dunder op.info.2 = nm := by
        cases op <;> first | (cases en; decide +kernel) | cases en
      refine PySem.W.binop_K (op := op) hF I.ok.mod.kin J J'.type (by rw [cx.K]; exact ok.sf) (by rw [cx.K, hnm]; exact hM.at_) (by rw [cx.K]; exact hM.fn) ?_
      exact wpAny_mono run (fun w s' ⟨z, H', I', rz, qz⟩ => SlX.cmpback rz ⟨z, H', I', rz, qz⟩) fun _ _ x => x
    · cases h
  · obtain ⟨z, ez, rfl⟩ := up_some h
    intro pins s v' u' I rv ru
    exact bin_ok cx ez so (look_ok so rx) (look_ok so ry) po pins s σ v' u' I rv ru
theorem je_bin (cx : CxOk g ct W X) (fo : FnsOk g T ct.nm) {a b : Expr} {ia ib : E} {op : Operator} {pos : Pos} (ha : JE g W X a (evalE T ia)) (hb : JE g W X b (evalE T ib)) : JE g W X (.BinOp a op b pos) (evalE T (.bin op ia ib)) := by
  intro ρ μ r h R F m σ H Q so ro po
  simp only [evalE] at h
  refine SE.of (pe_bins (pe_se X a) (pe_se X b)) ?_
  obtain ⟨ra, ea, pa⟩ := bd_post h po (Ka := QE g fun v H1 => SE X b σ H1 fun u H2 => SBs X σ (binaryOp op) v u H2 Q) fun d1 μ1 e1 h1 F1 m1 H1 gr1 so1 v rv => by
    obtain ⟨rb, eb, pb⟩ := bd_post h1 (po.grow gr1) (Ka := QE g fun u H2 => SBs X σ (binaryOp op) v u H2 Q) fun d2 μ2 e2 h2 F2 m2 H2 gr2 so2 u ru =>
      binT_ok cx fo h2 so2 (Rep.mono gr2 _ _ rv) ru (po.grow (gr1.trans gr2))
    exact hb ρ μ1 rb eb R F1 m1 σ H1 _ so1 (ro.mono gr1) pb
  exact ha ρ μ ra ea R F m σ H _ so ro pa
theorem je_neg (cx : CxOk g ct W X) {a : Expr} {ia : E} {pos : Pos} (ha : JE g W X a (evalE T ia)) : JE g W X (.UnaryOp .USub a pos) (evalE T (.neg ia)) := by
  intro ρ μ r h R F m σ H Q so ro po
  simp only [evalE] at h
  refine SE.of (pe_un un_neg (pe_se X a)) ?_
  obtain ⟨ra, ea, pa⟩ := bd_post h po (Ka := QE g fun v H1 => rU (fun i => V.int (-i)) v H1 Q) fun d1 μ1 e1 h1 F1 m1 H1 gr1 so1 v rv => by
    split at h1
    · rename_i i
      have e := rt_some h1
      subst e
      have rv : v = .int i := rv
      subst rv
      exact ⟨i, rfl, po F1 m1 H1 gr1 so1 _ rfl⟩
    · cases h1
  exact ha ρ μ ra ea R F m σ H _ so ro pa
theorem marks_of {op : CmpOp} {e : Expr} (h : notSet e = true) : behindInMarks op e = false := by
  cases e <;> first | rfl | cases h
theorem Post.imp {α : Type} {B : Bk} {R : Hp} {W : WX} {σ : St} {F : Hp} {m : List Addr} {r : Except Exc α × Store} {K K' : Hp → List Addr → Hp → α → Prop} (p : Post B R W σ F m r K) (h : ∀ F' m' H' a, K F' m' H' a → K' F' m' H' a) : Post B R W σ F m r K' := by
  obtain ⟨r1, r2⟩ := r
  cases r1 with
  | ok a => exact fun F' m' H' gr so => h _ _ _ _ (p F' m' H' gr so)
  | error x => exact p
theorem cmpT_ok (cx : CxOk g ct W X) (fo : FnsOk g T ct.nm) {op : CmpOp} {x y : D} {v u : V} {μ : Store} {r : Except Exc D × Store} {R F : Hp} {m : List Addr} {σ : St} {H : Hp} {Q : VK} (h : cmpT T op x y μ = some r)
    (so : SOk g.B R F m μ H) (rx : Rep g.B F m x v) (ry : Rep g.B F m y u) (po : Post g.B R W σ F m r (QE g Q)) : SBs X σ (compareOp op) v u H Q := by
  unfold cmpT at h
  split at h
  · rename_i hs
    obtain ⟨c, fs, gs, rfl, rfl⟩ := same_cls hs
    split at h
    · rename_i f hf
      obtain ⟨nm, en, hf⟩ := Option.bind_eq_some_iff.mp hf
      obtain ⟨c', fs', a, C, dx, fv, cl, e1, rfl, e2, e3, ok, ha, fa, hfa, hM, hfn⟩ := opN_at fo so hf rx
      cases e1
      obtain ⟨b, C', dy, ns', ws, rfl, hc', _, hb, _⟩ := id ry
      rw [e3] at hc'
      cases hc'
      intro pins s v' u' I rv ru
      cases (show v' = Value.ref a from rv)
      cases (show u' = Value.ref b from ru)
      obtain ⟨mA, O, _⟩ := ins_get I.hok ha
      obtain ⟨od, J, _⟩ := O.look
      obtain ⟨mB, O', _⟩ := ins_get I.hok (so.sub _ _ hb)
      obtain ⟨od', J', _⟩ := O'.look
      obtain ⟨mf, hF⟩ := I.fr
      have run := call_run cx fo hfa h so ⟨.ref a, [.ref b], rfl, rx, .ref b, [], rfl, ry, rfl⟩ po pins s [.ref a, .ref b] I (.cons rfl (.cons rfl .nil))
      have hnm : (cmpInfo op).2.1 = nm ∧ compareOp op (.ref a) (.ref b) = richCompare op (.ref a) (.ref b) := by
        cases op <;> first | (cases en; exact ⟨by decide +kernel, rfl⟩) | cases en
      rw [hnm.2]
      refine PySem.W.cmp_K (op := op) (tb := .ref C) (by have := cx.room.units0; omega) hF I.ok.mod.kin J J'.type (by rw [cx.K]; exact ok.nf) (by rw [cx.K, hnm.1]; exact hM.at_) (by rw [cx.K]; exact hM.fn) ?_
      exact wpAny_mono run (fun w s' ⟨z, H', I', rz, qz⟩ => SlX.cmpback rz ⟨z, H', I', rz, qz⟩) fun _ _ x => x
    · cases h
  · obtain ⟨z, ez, rfl⟩ := up_some h
    cases ek : cmpD op (look μ x) (look μ y) with
    | none =>
      rw [ek] at ez
      cases ez
    | some k =>
      rw [ek] at ez
      have ez := Option.some.inj ez
      subst ez
      intro pins s v' u' I rv ru
      exact cmp_ok cx ek so (look_ok so rx) (look_ok so ry) (po F m H (Grow.refl _ _) so _ rfl) pins s σ v' u' I rv ru
theorem je_cmp (cx : CxOk g ct W X) (fo : FnsOk g T ct.nm) {a b : Expr} {ia ib : E} {op : CmpOp} {pos : Pos} (hm : notSet b = true) (ha : JE g W X a (evalE T ia)) (hb : JE g W X b (evalE T ib)) : JE g W X (.Compare a [op] [b] pos) (evalE T (.cmp op ia ib)) := by
  intro ρ μ r h R F m σ H Q so ro po
  simp only [evalE] at h
  refine SE.of (pe_cmps (pe_se X a) (pe_se X b) (marks_of hm)) ?_
  obtain ⟨ra, ea, pa⟩ := bd_post h po (Ka := QE g fun v H1 => SE X b σ H1 fun u H2 => SBs X σ (compareOp op) v u H2 Q) fun d1 μ1 e1 h1 F1 m1 H1 gr1 so1 v rv => by
    obtain ⟨rb, eb, pb⟩ := bd_post h1 (po.grow gr1) (Ka := QE g fun u H2 => SBs X σ (compareOp op) v u H2 Q) fun d2 μ2 e2 h2 F2 m2 H2 gr2 so2 u ru =>
      cmpT_ok cx fo h2 so2 (Rep.mono gr2 _ _ rv) ru (po.grow (gr1.trans gr2))
    exact hb ρ μ1 rb eb R F1 m1 σ H1 _ so1 (ro.mono gr1) pb
  exact ha ρ μ ra ea R F m σ H _ so ro pa
theorem jt_cmp (cx : CxOk g ct W X) (fo : FnsOk g T ct.nm) {a b : Expr} {ia ib : E} {op : CmpOp} {pos : Pos} (hm : notSet b = true) (ha : JE g W X a (evalE T ia)) (hb : JE g W X b (evalE T ib)) : JT g W X (.Compare a [op] [b] pos) (evalT T (.cmp op ia ib)) := by
  intro ρ μ r h R F m σ H Q so ro po
  simp only [evalT] at h
  refine ST.of (pt_cmps (pe_se X a) (pe_se X b) (marks_of hm)) ?_
  obtain ⟨ra, ea, pa⟩ := bd_post h po (Ka := QE g fun v H1 => SE X b σ H1 fun u H2 => SBs X σ (compareOp op) v u H2 fun z H3 => ∃ j, z = .bl j ∧ Q j H3) fun d1 μ1 e1 h1 F1 m1 H1 gr1 so1 v rv => by
    obtain ⟨rb, eb, pb⟩ := bd_post h1 (po.grow gr1) (Ka := QE g fun u H2 => SBs X σ (compareOp op) v u H2 fun z H3 => ∃ j, z = .bl j ∧ Q j H3) fun d2 μ2 e2 h2 F2 m2 H2 gr2 so2 u ru => by
      unfold boolM at h2
      obtain ⟨rc, ec, pc⟩ := bd_post h2 (po.grow (gr1.trans gr2)) (Ka := QE g fun z H3 => ∃ j, z = .bl j ∧ Q j H3) fun d3 μ3 e3 h3 F3 m3 H3 gr3 so3 z rz => by
        split at h3
        · have rz : z = _ := rz
          subst rz
          have e := rt_some h3
          subst e
          exact ⟨_, rfl, po F3 m3 H3 ((gr1.trans gr2).trans gr3) so3⟩
        · cases h3
      exact cmpT_ok cx fo ec so2 (Rep.mono gr2 _ _ rv) ru pc
    exact hb ρ μ1 rb eb R F1 m1 σ H1 _ so1 (ro.mono gr1) pb
  exact ha ρ μ ra ea R F m σ H _ so ro pa
theorem last_of {op op' : CmpOp} {b c : Expr} (h : notSet c = true) : lastMarks [op, op'] [b, c] = false := by
  show behindInMarks op' c = false
  exact marks_of h
theorem chain_read (cx : CxOk g ct W X) {a b c : Expr} {ia ib ic : E} {op op' : CmpOp} (ha : JE g W X a (evalE T ia)) (hb : JE g W X b (evalE T ib)) (hc : JE g W X c (evalE T ic)) {ρ : Rho} {μ : Store} {r : Except Exc D × Store} (h : evalE T (.chain op op' ia ib ic) ρ μ = some r)
    {R F : Hp} {m : List Addr} {σ : St} {H : Hp} {Q : VK} (so : SOk g.B R F m μ H) (ro : ROk g.B F m ρ σ) (po : Post g.B R W σ F m r (fun F' m' H' d => ∀ k, d = .bl k → Q (.bl k) H')) : tChain (SB X (compareOp op)) (SB X (compareOp op')) (SE X a) (SE X b) (SE X c) σ H Q := by
  simp only [evalE] at h
  obtain ⟨ra, ea, pa⟩ := bd_post h po (Ka := QE g fun v H1 => SE X b σ H1 fun u H2 => SB X (compareOp op) v u H2 fun z H3 => ∃ k, z = .bl k ∧ (if k = true then SE X c σ H3 fun w' H4 => SB X (compareOp op') u w' H4 Q else Q (.bl false) H3)) fun d1 μ1 e1 h1 F1 m1 H1 gr1 so1 v rv => by
    obtain ⟨rb, eb, pb⟩ := bd_post h1 (po.grow gr1) (Ka := QE g fun u H2 => SB X (compareOp op) v u H2 fun z H3 => ∃ k, z = .bl k ∧ (if k = true then SE X c σ H3 fun w' H4 => SB X (compareOp op') u w' H4 Q else Q (.bl false) H3)) fun d2 μ2 e2 h2 F2 m2 H2 gr2 so2 u ru => by
      have po2 := po.grow (gr1.trans gr2)
      have h2 : bd (up (cmpD op (look μ2 d1) (look μ2 d2))) (fun k => if k = true then bd (evalE T ic ρ) fun z μ => up ((cmpD op' (look μ d2) (look μ z)).map .bl) μ else rt (.bl false)) μ2 = some r := h2
      cases ek : cmpD op (look μ2 d1) (look μ2 d2) with
      | none =>
        rw [ek] at h2
        cases h2
      | some k =>
        rw [ek] at h2
        refine cmp_ok cx ek so2 (look_ok so2 (Rep.mono gr2 _ _ rv)) (look_ok so2 ru) ⟨k, rfl, ?_⟩
        have h2 : (if k = true then bd (evalE T ic ρ) fun z μ => up ((cmpD op' (look μ d2) (look μ z)).map .bl) μ else rt (.bl false)) μ2 = some r := h2
        cases k with
        | false =>
          have e := rt_some (show rt (D.bl false) μ2 = some r from h2)
          subst e
          exact iteF (po2 F2 m2 H2 (Grow.refl _ _) so2 false rfl)
        | true =>
          refine iteT ?_
          have h2 : (bd (evalE T ic ρ) fun z μ => up ((cmpD op' (look μ d2) (look μ z)).map .bl) μ) μ2 = some r := h2
          obtain ⟨rc, ec, pc⟩ := bd_post h2 po2 (Ka := QE g fun w' H4 => SB X (compareOp op') u w' H4 Q) fun d3 μ3 e3 h3 F3 m3 H3 gr3 so3 w rw' => by
            obtain ⟨z, ez, rfl⟩ := up_some h3
            cases ek' : cmpD op' (look μ3 d2) (look μ3 d3) with
            | none =>
              rw [ek'] at ez
              cases ez
            | some k' =>
              rw [ek'] at ez
              have ez := Option.some.inj ez
              subst ez
              exact cmp_ok cx ek' so3 (look_ok so3 (Rep.mono gr3 _ _ ru)) (look_ok so3 rw') (po2 F3 m3 H3 gr3 so3 k' rfl)
          exact hc ρ μ2 rc ec R F2 m2 σ H2 _ so2 (ro.mono (gr1.trans gr2)) pc
    exact hb ρ μ1 rb eb R F1 m1 σ H1 _ so1 (ro.mono gr1) pb
  exact ha ρ μ ra ea R F m σ H _ so ro pa
theorem je_chain (cx : CxOk g ct W X) {a b c : Expr} {ia ib ic : E} {op op' : CmpOp} {pos : Pos} (hm : notSet c = true) (ha : JE g W X a (evalE T ia)) (hb : JE g W X b (evalE T ib)) (hc : JE g W X c (evalE T ic)) :
    JE g W X (.Compare a [op, op'] [b, c] pos) (evalE T (.chain op op' ia ib ic)) := by
  intro ρ μ r h R F m σ H Q so ro po
  exact SE.of (pe_chain (op_sb X (compareOp op)) (op_sb X (compareOp op')) (pe_se X a) (pe_se X b) (pe_se X c) (last_of hm)) (chain_read cx ha hb hc h so ro (po.imp fun _ _ _ d k j e => k _ (by subst e; exact rfl)))
theorem jt_chain (cx : CxOk g ct W X) {a b c : Expr} {ia ib ic : E} {op op' : CmpOp} {pos : Pos} (hm : notSet c = true) (ha : JE g W X a (evalE T ia)) (hb : JE g W X b (evalE T ib)) (hc : JE g W X c (evalE T ic)) :
    JT g W X (.Compare a [op, op'] [b, c] pos) (evalT T (.chain op op' ia ib ic)) := by
  intro ρ μ r h R F m σ H Q so ro po
  simp only [evalT] at h
  refine ST.of (pt_chain (op_sb X (compareOp op)) (op_sb X (compareOp op')) (pe_se X a) (pe_se X b) (pe_se X c) (last_of hm)) ?_
  obtain ⟨ra, ea, pa⟩ := bd_post h po (Ka := QE g fun v H1 => SE X b σ H1 fun u H2 => SB X (compareOp op) v u H2 fun z H3 => ∃ k, z = .bl k ∧ (if k = true then SE X c σ H3 fun w' H4 => SB X (compareOp op') u w' H4 fun y H5 => ∃ j, y = .bl j ∧ Q j H5 else ∃ j, V.bl false = .bl j ∧ Q j H3)) fun d1 μ1 e1 h1 F1 m1 H1 gr1 so1 v rv => by
    obtain ⟨rb, eb, pb⟩ := bd_post h1 (po.grow gr1) (Ka := QE g fun u H2 => SB X (compareOp op) v u H2 fun z H3 => ∃ k, z = .bl k ∧ (if k = true then SE X c σ H3 fun w' H4 => SB X (compareOp op') u w' H4 fun y H5 => ∃ j, y = .bl j ∧ Q j H5 else ∃ j, V.bl false = .bl j ∧ Q j H3)) fun d2 μ2 e2 h2 F2 m2 H2 gr2 so2 u ru => by
      have po2 := po.grow (gr1.trans gr2)
      have h2 : bd (up (cmpD op (look μ2 d1) (look μ2 d2))) (fun k => if k = true then bd (evalE T ic ρ) fun z μ => up (cmpD op' (look μ d2) (look μ z)) μ else rt false) μ2 = some r := h2
      cases ek : cmpD op (look μ2 d1) (look μ2 d2) with
      | none =>
        rw [ek] at h2
        cases h2
      | some k =>
        rw [ek] at h2
        refine cmp_ok cx ek so2 (look_ok so2 (Rep.mono gr2 _ _ rv)) (look_ok so2 ru) ⟨k, rfl, ?_⟩
        have h2 : (if k = true then bd (evalE T ic ρ) fun z μ => up (cmpD op' (look μ d2) (look μ z)) μ else rt false) μ2 = some r := h2
        cases k with
        | false =>
          have e := rt_some (show rt false μ2 = some r from h2)
          subst e
          exact iteF ⟨false, rfl, po2 F2 m2 H2 (Grow.refl _ _) so2⟩
        | true =>
          refine iteT ?_
          have h2 : (bd (evalE T ic ρ) fun z μ => up (cmpD op' (look μ d2) (look μ z)) μ) μ2 = some r := h2
          obtain ⟨rc, ec, pc⟩ := bd_post h2 po2 (Ka := QE g fun w' H4 => SB X (compareOp op') u w' H4 fun y H5 => ∃ j, y = .bl j ∧ Q j H5) fun d3 μ3 e3 h3 F3 m3 H3 gr3 so3 w rw' => by
            obtain ⟨k', ek', rfl⟩ := up_some h3
            exact cmp_ok cx ek' so3 (look_ok so3 (Rep.mono gr3 _ _ ru)) (look_ok so3 rw') ⟨k', rfl, po2 F3 m3 H3 gr3 so3⟩
          exact hc ρ μ2 rc ec R F2 m2 σ H2 _ so2 (ro.mono (gr1.trans gr2)) pc
    exact hb ρ μ1 rb eb R F1 m1 σ H1 _ so1 (ro.mono gr1) pb
  exact ha ρ μ ra ea R F m σ H _ so ro pa
theorem je_one {a : Expr} {op : BoolOp} {pos : Pos} {f : Rho → M D} (ha : JE g W X a f) : JE g W X (.BoolOp op [a] pos) f := by
  intro ρ μ r h R F m σ H Q so ro po
  exact SE.of (pe_one (pe_se X a)) (ha ρ μ r h R F m σ H Q so ro po)
theorem je_and {a b : Expr} {rest : List Expr} {pos : Pos} {ia ib : E} (ha : JE g W X a (evalE T ia)) (hb : JE g W X (.BoolOp .And (b :: rest) pos) (evalE T ib)) : JE g W X (.BoolOp .And (a :: b :: rest) pos) (evalE T (.and ia ib)) := by
  intro ρ μ r h R F m σ H Q so ro po
  simp only [evalE] at h
  refine SE.of (pe_and (pe_se X a) (pe_se X _)) ?_
  obtain ⟨ra, ea, pa⟩ := bd_post h po (Ka := QE g fun x H1 => ∃ c, x = .bl c ∧ if c = true then SE X (.BoolOp .And (b :: rest) pos) σ H1 Q else Q (.bl false) H1) fun d1 μ1 e1 h1 F1 m1 H1 gr1 so1 v rv => by
    split at h1
    · have rv : v = _ := rv
      subst rv
      exact ⟨true, rfl, iteT (hb ρ μ1 r h1 R F1 m1 σ H1 Q so1 (ro.mono gr1) (po.grow gr1))⟩
    · have rv : v = _ := rv
      subst rv
      have e := rt_some h1
      subst e
      exact ⟨false, rfl, iteF (po F1 m1 H1 gr1 so1 _ rfl)⟩
    · cases h1
  exact ha ρ μ ra ea R F m σ H _ so ro pa
theorem je_or {a b : Expr} {rest : List Expr} {pos : Pos} {ia ib : E} (ha : JE g W X a (evalE T ia)) (hb : JE g W X (.BoolOp .Or (b :: rest) pos) (evalE T ib)) : JE g W X (.BoolOp .Or (a :: b :: rest) pos) (evalE T (.or ia ib)) := by
  intro ρ μ r h R F m σ H Q so ro po
  simp only [evalE] at h
  refine SE.of (pe_or (pe_se X a) (pe_se X _)) ?_
  obtain ⟨ra, ea, pa⟩ := bd_post h po (Ka := QE g fun x H1 => ∃ c, x = .bl c ∧ if c = true then Q (.bl true) H1 else SE X (.BoolOp .Or (b :: rest) pos) σ H1 Q) fun d1 μ1 e1 h1 F1 m1 H1 gr1 so1 v rv => by
    split at h1
    · have rv : v = _ := rv
      subst rv
      exact ⟨false, rfl, iteF (hb ρ μ1 r h1 R F1 m1 σ H1 Q so1 (ro.mono gr1) (po.grow gr1))⟩
    · have rv : v = _ := rv
      subst rv
      have e := rt_some h1
      subst e
      exact ⟨true, rfl, iteT (po F1 m1 H1 gr1 so1 _ rfl)⟩
    · cases h1
  exact ha ρ μ ra ea R F m σ H _ so ro pa
theorem je_not {a : Expr} {pos : Pos} {ia : E} (ha : JE g W X a (evalE T ia)) : JE g W X (.UnaryOp .Not a pos) (evalE T (.not ia)) := by
  intro ρ μ r h R F m σ H Q so ro po
  simp only [evalE] at h
  refine SE.of (pe_not (pe_se X a)) ?_
  obtain ⟨ra, ea, pa⟩ := bd_post h po (Ka := QE g fun x H1 => ∃ c, x = .bl c ∧ Q (.bl (!c)) H1) fun d1 μ1 e1 h1 F1 m1 H1 gr1 so1 v rv => by
    split at h1
    · rename_i k
      have rv : v = _ := rv
      subst rv
      have e := rt_some h1
      subst e
      exact ⟨k, rfl, po F1 m1 H1 gr1 so1 _ rfl⟩
    · cases h1
  exact ha ρ μ ra ea R F m σ H _ so ro pa
theorem je_ite {c a b : Expr} {pos : Pos} {ic : B} {ia ib : E} (hc : JT g W X c (evalT T ic)) (ha : JE g W X a (evalE T ia)) (hb : JE g W X b (evalE T ib)) : JE g W X (.IfExp c a b pos) (evalE T (.ite ic ia ib)) := by
  intro ρ μ r h R F m σ H Q so ro po
  simp only [evalE] at h
  refine SE.of (pe_ifExp (pt_st X c) (pe_se X a) (pe_se X b)) ?_
  obtain ⟨rc, ec, pc⟩ := bd_post h po (Ka := fun F' m' H' k => if k = true then SE X a σ H' Q else SE X b σ H' Q) fun k μ1 e1 h1 F1 m1 H1 gr1 so1 => by
    cases k with
    | true => exact iteT (ha ρ μ1 r h1 R F1 m1 σ H1 Q so1 (ro.mono gr1) (po.grow gr1))
    | false => exact iteF (hb ρ μ1 r h1 R F1 m1 σ H1 Q so1 (ro.mono gr1) (po.grow gr1))
  exact hc ρ μ rc ec R F m σ H _ so ro pc
theorem ja_nil : JA g W X [] (evalL T []) := by
  intro ρ μ r h R F m σ H Q so ro po
  simp only [evalL] at h
  have e := rt_some h
  subst e
  exact SA.of pa_nil (po F m H (Grow.refl F m) so [] rfl)
theorem evalL_cons {ie : E} {ies : List E} (hs : isStar ie = false) (ρ : Rho) : evalL T (ie :: ies) ρ = bd (evalE T ie ρ) fun x => bd (evalL T ies ρ) fun xs => rt (x :: xs) := by
  cases ie <;> first | rfl | (simp only [evalL]; done) | cases hs
theorem ja_cons {e : Expr} {es : List Expr} {ie : E} {ies : List E} (hi : isStar ie = false) (hs : notStar e = true) (he : JE g W X e (evalE T ie)) (hes : JA g W X es (evalL T ies)) : JA g W X (e :: es) (evalL T (ie :: ies)) := by
  intro ρ μ r h R F m σ H Q so ro po
  rw [evalL_cons hi] at h
  refine SA.of (pa_cons (pe_se X e) (pa_sa X es) (star_cons hs es X.env)) ?_
  obtain ⟨ra, ea, pa⟩ := bd_post h po (Ka := QE g fun x H1 => SA X es σ H1 fun xs H2 => Q (x :: xs) H2) fun d1 μ1 e1 h1 F1 m1 H1 gr1 so1 v rv => by
    obtain ⟨rb, eb, pb⟩ := bd_post h1 (po.grow gr1) (Ka := fun F' m' H' ds => ∀ vs, RepL g.B F' m' ds vs → Q (v :: vs) H') fun ds μ2 e2 h2 F2 m2 H2 gr2 so2 us ru => by
      have e := rt_some h2
      subst e
      exact po F2 m2 H2 (gr1.trans gr2) so2 (v :: us) ⟨v, us, rfl, Rep.mono gr2 _ _ rv, ru⟩
    exact hes ρ μ1 rb eb R F1 m1 σ H1 _ so1 (ro.mono gr1) pb
  exact he ρ μ ra ea R F m σ H _ so ro pa
/-- the items of a list or a tuple -/
theorem seqD_ok (cx : CxOk g ct W X) {R F : Hp} {m : List Addr} {μ : Store} {H : Hp} (so : SOk g.B R F m μ H) {d : D} {ds : List D} {v : V} (h : seqD d = some ds) (rv : Rep g.B F m d v) : ∃ a vs, v = .ref a ∧ (SqT X.K H a vs ∨ SqL X.K H a vs) ∧ RepL g.B F m ds vs := by
  unfold seqD at h
  split at h
  · have h := Option.some.inj h
    subst h
    obtain ⟨a, vs, rfl, hs, r⟩ := rv
    exact ⟨a, vs, rfl, .inr (SqL.of (so.sub _ _ hs)), r⟩
  · have h := Option.some.inj h
    subst h
    obtain ⟨a, vs, rfl, hs, r⟩ := rv
    exact ⟨a, vs, rfl, .inl (cx.K ▸ seqT_mono so.sub hs), r⟩
  · cases h
theorem ja_star (cx : CxOk g ct W X) {e : Expr} {es : List Expr} {ie : E} {ies : List E} {p : Pos} (he : JE g W X e (evalE T ie)) (hes : JA g W X es (evalL T ies)) : JA g W X (.Starred e p :: es) (evalL T (.star ie :: ies)) := by
  intro ρ μ r h R F m σ H Q so ro po
  simp only [evalL] at h
  refine SA.of (StX.pa_star (pe_se X e) (pa_sa X es)) ?_
  obtain ⟨ra, ea, pa⟩ := bd_post h po (Ka := QE g fun x H1 => ∃ q xs, x = V.ref q ∧ (SqT X.K H1 q xs ∨ SqL X.K H1 q xs) ∧ SA X es σ H1 fun ys H2 => Q (xs ++ ys) H2) fun d1 μ1 e1 h1 F1 m1 H1 gr1 so1 v rv => by
    cases es1 : seqD d1 with
    | none =>
      rw [es1] at h1
      cases h1
    | some ys =>
      rw [es1] at h1
      obtain ⟨a, vs, rfl, hs, rr⟩ := seqD_ok cx so1 es1 rv
      refine ⟨a, vs, rfl, hs, ?_⟩
      obtain ⟨rb, eb, pb⟩ := bd_post h1 (po.grow gr1) (Ka := fun F' m' H' ds => ∀ us, RepL g.B F' m' ds us → Q (vs ++ us) H') fun ds μ2 e2 h2 F2 m2 H2 gr2 so2 us ru => by
        have e := rt_some h2
        subst e
        exact po F2 m2 H2 (gr1.trans gr2) so2 _ ((RepL.mono gr2 _ _ rr).append ru)
      exact hes ρ μ1 rb eb R F1 m1 σ H1 _ so1 (ro.mono gr1) pb
  exact he ρ μ ra ea R F m σ H _ so ro pa
theorem je_tup {es : List Expr} {ies : List E} {k : Nat} {pos : Pos} (h : JA g W X es (evalL T ies)) : JE g W X (.Tuple es k pos) (evalE T (.tup ies)) := by
  intro ρ μ r h0 R F m σ H Q so ro po
  simp only [evalE] at h0
  refine SE.of (pe_tup (pa_sa X es)) ?_
  obtain ⟨ra, ea, pa⟩ := bd_post h0 po (Ka := fun F' m' H' ds => ∀ vs, RepL g.B F' m' ds vs → vs.length ≤ sizeLine ∧ ∀ p, H' p = none → Q (.ref p) (upd H' p (.tup vs))) fun ds μ1 e1 h1 F1 m1 H1 gr1 so1 vs rv => by
    split at h1
    · rename_i hl
      have e := rt_some h1
      subst e
      exact ⟨by rw [← rv.length]; exact hl, Aft.tup (g := g) (R := R) (fun F' m' H' gr so' => po F' m' H' (gr1.trans gr) so') so1 rv⟩
    · cases h1
  exact h ρ μ ra ea R F m σ H _ so ro pa
theorem je_lst {es : List Expr} {ies : List E} {pos : Pos} (h : JA g W X es (evalL T ies)) : JE g W X (.List es pos) (evalE T (.lst ies)) := by
  intro ρ μ r h0 R F m σ H Q so ro po
  simp only [evalE] at h0
  refine SE.of (pe_lst (pa_sa X es)) ?_
  obtain ⟨ra, ea, pa⟩ := bd_post h0 po (Ka := fun F' m' H' ds => ∀ vs, RepL g.B F' m' ds vs → vs.length ≤ sizeLine ∧ ∀ p, H' p = none → Q (.ref p) (upd H' p (.lst vs))) fun ds μ1 e1 h1 F1 m1 H1 gr1 so1 vs rv => by
    split at h1
    · rename_i hl
      have e := rt_some h1
      subst e
      exact ⟨by rw [← rv.length]; exact hl, Aft.lst (g := g) (R := R) (fun F' m' H' gr so' => po F' m' H' (gr1.trans gr) so') so1 rv⟩
    · cases h1
  exact h ρ μ ra ea R F m σ H _ so ro pa
theorem je_emp {pos : Pos} : JE g W X (.Dict [] [] pos) (evalE T .emp) := by
  intro ρ μ r h R F m σ H Q so ro po
  simp only [evalE] at h
  have e := rt_some h
  subst e
  refine SE.of pe_dnewK ?_
  intro p hp
  obtain ⟨gr, so'⟩ := so.new (o := .dK []) hp
  exact po _ m _ gr so' _ ⟨p, [], rfl, upd_same, rfl, rfl⟩
theorem je_own {es : List Expr} {ies : List E} {pos : Pos} (h : JA g W X es (evalL T ies)) : JE g W X (.List es pos) (evalE T (.own ies)) := by
  intro ρ μ r h0 R F m σ H Q so ro po
  simp only [evalE] at h0
  refine SE.of (pe_lst (pa_sa X es)) ?_
  obtain ⟨ra, ea, pa⟩ := bd_post h0 po (Ka := fun F' m' H' ds => ∀ vs, RepL g.B F' m' ds vs → vs.length ≤ sizeLine ∧ ∀ p, H' p = none → Q (.ref p) (upd H' p (.lst vs))) fun ds μ1 e1 h1 F1 m1 H1 gr1 so1 vs rv => by
    split at h1
    · rename_i hl
      have e := Option.some.inj h1
      subst e
      refine ⟨by rw [← rv.length]; exact hl.1, fun p hp => ?_⟩
      obtain ⟨gr, so'⟩ := so1.newLive (c := .own ds) hp ⟨vs, rfl, rv⟩ hl.2
      refine po F1 _ _ (gr1.trans gr) so' _ ⟨p, ?_, rfl⟩
      rw [← so1.len, List.getElem?_append_right (Nat.le_refl _), Nat.sub_self]
      rfl
    · cases h1
  exact h ρ μ ra ea R F m σ H _ so ro pa
theorem je_dnw {pos : Pos} : JE g W X (.Dict [] [] pos) (evalE T .dnw) := by
  intro ρ μ r h R F m σ H Q so ro po
  simp only [evalE] at h
  have e := Option.some.inj h
  subst e
  refine SE.of pe_dnewK ?_
  intro p hp
  obtain ⟨gr, so'⟩ := so.newLive (c := .dct [] []) (o := .dK []) hp ⟨[], rfl, rfl, rfl⟩ rfl
  refine po F _ _ gr so' _ ⟨p, ?_, rfl⟩
  rw [← so.len, List.getElem?_append_right (Nat.le_refl _), Nat.sub_self]
  rfl
/-- a call by values -/
def SCs (X : Cx) (σ : St) (f : Value) : List V → Hp → VK → Prop := fun vs H Q => ∀ (pins : List (Addr × Obj)) (s : Shared) (us : List Value), L2.Inv X pins σ H s → Vals vs us → wpAny (model X.prog X.w) X.A (call f us) (EP X pins σ Q) X.xe s
/-- the arguments of a call, ahead of them those that are there already -/
theorem args_with {f : Value} {first : List Value} {xs : List Expr} {es : List E} {pos : Pos} {ρ : Rho} {μ : Store} {r : Except Exc D × Store} {k : List D → M D} {R F : Hp} {m : List Addr} {σ : St} {H : Hp} {Q : VK} {pins : List (Addr × Obj)} {s : Shared}
    (hk : PySem.W.keepIn X.K f = true) (hst : noStars es = true) (hc : chkL ct es xs = true) (ha : JA g W X xs (evalL T es)) (h : bd (evalL T es ρ) k μ = some r) (so : SOk g.B R F m μ H) (ro : ROk g.B F m ρ σ) (po : Post g.B R W σ F m r (QE g Q))
    (run : ∀ ds μ1 F1 m1 H1, k ds μ1 = some r → Grow F m F1 m1 → SOk g.B R F1 m1 μ1 H1 → ∀ vs, RepL g.B F1 m1 ds vs → ∀ (pins : List (Addr × Obj)) (s : Shared) (us : List Value), L2.Inv X pins σ H1 s → Vals vs us → wpAny (model X.prog X.w) X.A (call f (first ++ us)) (EP X pins σ Q) X.xe s)
    (I : L2.Inv X pins σ H s) : wpAny (model X.prog X.w) X.A (callWith pos f first (backTo pos (starEach xs X.env)) []) (EP X pins σ Q) X.xe s := by
  cases xs with
  | nil =>
    cases es with
    | nil =>
      refine PySem.W.callWith_K0 I.kIn hk ?_
      simp only [evalL] at h
      exact run [] μ F m H h (Grow.refl F m) so [] rfl pins s [] I .nil
    | cons e es =>
      obtain ⟨n1, n2⟩ := noStars_cons hst
      obtain ⟨x, r, e, _⟩ := chkL_cons n1 hc
      cases e
  | cons y ys =>
    cases es with
    | nil => cases hc
    | cons ie ies =>
      obtain ⟨n1, n2⟩ := noStars_cons hst
      obtain ⟨x, r', e, h1, h2, h3⟩ := chkL_cons n1 hc
      cases e
      obtain ⟨ra, ea, pa⟩ := bd_post h po (Ka := fun F' m' H' ds => ∀ vs, RepL g.B F' m' ds vs → ∀ (pins : List (Addr × Obj)) (s : Shared) (us : List Value), L2.Inv X pins σ H' s → Vals vs us → wpAny (model X.prog X.w) X.A (call f (first ++ us)) (EP X pins σ Q) X.xe s)
        fun ds μ1 e1 h1 F1 m1 H1 gr1 so1 vs rv => run ds μ1 F1 m1 H1 h1 gr1 so1 vs rv
      have hA := ha ρ μ ra ea R F m σ H _ so ro pa
      refine PySem.W.callWith_K (h₀ := X.base) I.ok.mod.kin hk (thn (hA pos pins s I) fun us s1 ⟨vs, H1, I1, r1, k1⟩ => ⟨I1.kIn, ?_⟩) (star_cons h1 ys X.env) (star_none n2 h3)
      exact k1 pins s1 us I1 r1
theorem je_call (cx : CxOk g ct W X) (fo : FnsOk g T ct.nm) {x : Str} {xs : List Expr} {f : Nat} {es : List E} {p pos : Pos} (hg : chkG ct x = true) (hf : ct.nm.fns[f]? = some x) (hx : x ≠ "") (hst : noStars es = true) (hc : chkL ct es xs = true) (ha : JA g W X xs (evalL T es)) :
    JE g W X (.Call (.Name x p) xs [] pos) (evalE T (.call f es)) := by
  intro ρ μ r h R F m σ H Q so ro po
  obtain ⟨g1, g2⟩ := chkG_of cx hg
  simp only [evalE] at h
  intro pins s I
  obtain ⟨fa, hfa, q1, q2⟩ := fo.gn f x hf hx
  refine wpAny_Call_Name_kw (ld_glob I g1 (by rw [cx.mg]; exact q1) ?_ g2)
  refine args_with (ct := ct) (by rw [cx.K]; exact q2) hst hc ha h so ro po (fun ds μ1 F1 m1 H1 h1 gr1 so1 vs rv => ?_) I
  exact call_run cx fo hfa h1 so1 rv (po.grow gr1)
theorem je_blt (cx : CxOk g ct W X) (fo : FnsOk g T ct.nm) {x : Str} {xs : List Expr} {b : Blt} {es : List E} {p pos : Pos} (hg : chkG ct x = true) (hx : x = b.nm) (hn : xs.isEmpty = false) (hst : noStars es = true) (hgd : b = .repr → ct.nm.gd = true) (hc : chkL ct es xs = true) (ha : JA g W X xs (evalL T es)) :
    JE g W X (.Call (.Name x p) xs [] pos) (evalE T (.blt b es)) := by
  intro ρ μ r h R F m σ H Q so ro po
  obtain ⟨g1, g2⟩ := chkG_of cx hg
  subst hx
  simp only [evalE] at h
  have hmg : X.mg b.nm = none := by
    rw [cx.mg]
    exact fo.blt _ b.mem
  obtain ⟨ra, ea, pa⟩ := bd_post h po (Ka := fun F' m' H' ds => ∀ vs, RepL g.B F' m' ds vs → SCs X σ b.val vs H' Q) fun ds μ1 e1 h1 F1 m1 H1 gr1 so1 vs rv => by
    split at h1
    · rename_i c fs
      split at h1
      · rename_i f hf
        obtain ⟨v, us, rfl, rv, r2⟩ := rv
        have r2 : us = [] := r2
        subst r2
        obtain ⟨c', fs', a, C, dx, fv, cl, e1, rfl, e2, e3, ok, hH, fa, hfa, hM, hfn⟩ := opN_at fo so1 hf rv
        cases e1
        obtain ⟨rl, el, pl⟩ := bd_post h1 (po.grow gr1) (Ka := QE g fun z H2 => ∃ n : Int, z = .int n ∧ 0 ≤ n ∧ n < 2 ^ 62 ∧ Q (.int n) H2) fun d3 μ3 e3' h3 F3 m3 H3 gr3 so3 z rz => by
          split at h3
          · split at h3
            · rename_i hb
              have rz : z = _ := rz
              subst rz
              have e := rt_some h3
              subst e
              exact ⟨_, rfl, hb.1, hb.2, po F3 m3 H3 (gr1.trans gr3) so3 _ rfl⟩
            · cases h3
          · cases h3
        intro pins s us I ru
        have eu := ru.ref1
        subst eu
        obtain ⟨mA, O, _⟩ := ins_get I.hok hH
        obtain ⟨od, J, _⟩ := O.look
        obtain ⟨mf, hF⟩ := I.fr
        have run := call_in1 cx fo hfa el so1 (RepL.one rv) pl pins s [.ref a] I (.cons rfl .nil)
        refine PySem.W.len_K hF I.ok.mod.kin J (by rw [cx.K]; exact hM.at_) (by rw [cx.K]; exact hM.fn) (wpAny_mono (wpAny_call run) (fun w s' z => ?_) fun _ _ x => x)
        obtain ⟨z, H', I', rz, n, rfl, b1, b2, qz⟩ := z
        obtain ⟨t, rfl⟩ := rz
        exact ⟨⟨b1, by omega⟩, .int n, H', I'.tok _, ⟨_, rfl⟩, qz⟩
      · cases h1
    · obtain ⟨z, ez, rfl⟩ := up_some h1
      intro pins s us I ru
      exact blt_ok cx (fun e => fo.gd (hgd e)) ez so1 (lookL_ok so1 rv) (fun F' m' H' gr so' => po F' m' H' (gr1.trans gr) so') pins s σ us I ru
  have hA := ha ρ μ ra ea R F m σ H _ so ro pa
  cases xs with
  | nil => cases hn
  | cons y ys =>
    cases es with
    | nil => cases hc
    | cons ie ies =>
      obtain ⟨n1, n2⟩ := noStars_cons hst
      obtain ⟨x, r', e, h1, h2, h3⟩ := chkL_cons n1 hc
      cases e
      intro pins s I
      cases hv : b.val with
      | builtin id =>
        refine wpAny_Call_Name_kw (ld_blt (u := .builtin id) I g1 hmg (by rw [← hv]; exact b.boot) ?_ b.nn g2)
        refine PyProof.Rows.callWith_builtin1 (thn (hA pos pins s I) fun us s1 ⟨vs, H1, I1, r1, k1⟩ => ?_) (star_cons h1 ys X.env) (star_none n2 h3)
        have k2 := k1 pins s1 us I1 r1
        rw [hv] at k2
        exact k2
      | type id =>
        refine wpAny_Call_Name_kw (ld_blt (u := .type id) I g1 hmg (by rw [← hv]; exact b.boot) ?_ b.nn g2)
        refine PyProof.Rows.callWith_type1 (thn (hA pos pins s I) fun us s1 ⟨vs, H1, I1, r1, k1⟩ => ?_) (star_cons h1 ys X.env) (star_none n2 h3)
        have k2 := k1 pins s1 us I1 r1
        rw [hv] at k2
        exact k2
      | _ => cases b <;> cases hv
theorem boot_ty : ∀ n ∈ tyNames, bootBuiltins (Str.ofString n) = some (.type n) ∧ Str.ofString n ∈ bltNames ∧ Str.ofString n ≠ "__name__" := by decide +kernel
theorem je_isi (cx : CxOk g ct W X) (fo : FnsOk g T ct.nm) {x n : Str} {y : Expr} {a : E} {t : Ty} {p pn pos : Pos} (hg : chkG ct x = true) (hx : x = "isinstance") (hgn : chkG ct n = true) (ht : match t with
      | .ty s => n = Str.ofString s ∧ s ∈ tyNames
      | .own c => ct.nm.cls[c]? = some n)
    (hy : notStar y = true) (ha : JE g W X y (evalE T a)) : JE g W X (.Call (.Name x p) [y, .Name n pn] [] pos) (evalE T (.isi a t)) := by
  intro ρ μ r h R F m σ H Q so ro po
  obtain ⟨g1, g2⟩ := chkG_of cx hg
  obtain ⟨k1, k2⟩ := chkG_of cx hgn
  subst hx
  simp only [evalE] at h
  have hmg : X.mg "isinstance" = none := by
    rw [cx.mg]
    exact fo.blt _ (by decide +kernel)
  obtain ⟨u, pn', tu⟩ : ∃ u, PE X (.Name n pn) (tC u) ∧ tyVal g.B t u := by
    cases t with
    | ty s =>
      obtain ⟨rfl, hm⟩ := ht
      obtain ⟨b1, b2, b3⟩ := boot_ty s hm
      have hmn : X.mg (Str.ofString s) = none := by
        rw [cx.mg]
        exact fo.blt _ b2
      exact ⟨.ty s, pe_bltn k1 hmn b1 rfl b3 k2, rfl⟩
    | own c =>
      obtain ⟨C, ns, hc, hm⟩ := fo.cln c n ht
      exact ⟨.ref C, pe_glob k1 (by rw [cx.mg]; exact hm) rfl k2, C, ns, hc, rfl⟩
  refine SE.of (pe_callB (id := "isinstance") (call_sc X (.builtin "isinstance")) g1 hmg (by decide +kernel) (pa_cons (pe_se X y) (pa_cons pn' pa_nil) (star_cons hy _ _)) (by decide +kernel) g2 (star_cons hy _ _) (by rfl)) ?_
  obtain ⟨ra, ea, pa⟩ := bd_post h po (Ka := QE g fun v H1 => SC X (.builtin "isinstance") [v, u] H1 Q) fun d μ1 e1 h1 F1 m1 H1 gr1 so1 v rv => by
    obtain ⟨z, ez, rfl⟩ := up_some h1
    cases ek : isiD (look μ1 d) t with
    | none =>
      rw [ek] at ez
      cases ez
    | some k =>
      rw [ek] at ez
      have ez := Option.some.inj ez
      subst ez
      exact isi_ok cx fo ek so1 (look_ok so1 rv) tu (po F1 m1 H1 gr1 so1 _ rfl)
  exact ha ρ μ ra ea R F m σ H _ so ro pa
theorem base_of {o : Expr} {nm : Str} {env : Env} (h : notSuper o = true) : attributeBase o nm env (eval o env) = eval o env := by
  unfold attributeBase
  split
  · rename_i id _ pos
    have h : (id != ("super" : Str)) = true := h
    rw [h]
    simp only [Bool.true_or, if_true]
  · rfl
theorem je_mth (cx : CxOk g ct W X) {o : Expr} {nm : Str} {xs : List Expr} {mt : Mth} {io : E} {es : List E} {apos pos : Pos} (hnm : nm = mt.nm) (hs : notSuper o = true) (hl : (apos.endLine == pos.line) = true) (hst : noStars es = true) (hc : chkL ct es xs = true) (h30 : xs.length < 30)
    (ho : JE g W X o (evalE T io)) (ha : JA g W X xs (evalL T es)) : JE g W X (.Call (.Attribute o nm apos) xs [] pos) (evalE T (.mth mt io es)) := by
  intro ρ μ r h R F m σ H Q so ro po
  subst hnm
  simp only [evalE] at h
  have hb := base_of (nm := mt.nm) (env := X.env) hs
  cases xs with
  | nil =>
    cases es with
    | cons e es =>
      obtain ⟨n1, n2⟩ := noStars_cons hst
      obtain ⟨x, r', e, _⟩ := chkL_cons n1 hc
      cases e
    | nil =>
      refine SE.of (pe_bm0 mt.plain mt.slot mt.typ (mt_sm X mt.id) (pe_se X o) hb hl) ?_
      obtain ⟨ra, ea, pa⟩ := bd_post h po (Ka := QE g fun v H1 => tyV X.K mt.of v H1 ∧ SM X mt.id v [] H1 Q) fun d μ1 e1 h1 F1 m1 H1 gr1 so1 v rv => by
        split at h1
        · rename_i ht
          simp only [evalL] at h1
          have h1 : up (mthD mt d []) μ1 = some r := h1
          obtain ⟨z, ez, rfl⟩ := up_some h1
          exact ⟨mth_ty cx ht so1 rv, mth_ok cx ez so1 rv rfl fun F' m' H' gr so' => po F' m' H' (gr1.trans gr) so'⟩
        · cases h1
      exact ho ρ μ ra ea R F m σ H _ so ro pa
  | cons y ys =>
    cases es with
    | nil => cases hc
    | cons ie ies =>
      obtain ⟨n1, n2⟩ := noStars_cons hst
      obtain ⟨x, r', e, c1, c2, c3⟩ := chkL_cons n1 hc
      cases e
      have hfew : (((backTo pos (starEach (y :: ys) X.env)).all fun x => !x.fst) && ((backToKw pos (keywordEach [] X.env)).all fun x => x.fst.isSome) && decide ((y :: ys).length + ([] : List Keyword).length + (if ([] : List Keyword).isEmpty = true then 0 else 1) < 30)) = true := by
        rw [star_all hst hc]
        show (true && true && decide ((y :: ys).length + 0 + 0 < 30)) = true
        rw [Nat.add_zero, decide_eq_true h30]
        rfl
      refine SE.of (pe_bm mt.plain mt.slot mt.typ (mt_sm X mt.id) (pe_se X o) (pa_sa X (y :: ys)) hb hfew hl (star_cons c1 ys X.env) (star_none n2 c3)) ?_
      obtain ⟨ra, ea, pa⟩ := bd_post h po (Ka := QE g fun v H1 => tyV X.K mt.of v H1 ∧ SA X (y :: ys) σ H1 fun vs H2 => SM X mt.id v vs H2 Q) fun d μ1 e1 h1 F1 m1 H1 gr1 so1 v rv => by
        split at h1
        · rename_i ht
          refine ⟨mth_ty cx ht so1 rv, ?_⟩
          obtain ⟨rb, eb, pb⟩ := bd_post h1 (po.grow gr1) (Ka := fun F' m' H' ds => ∀ vs, RepL g.B F' m' ds vs → SM X mt.id v vs H' Q) fun ds μ2 e2 h2 F2 m2 H2 gr2 so2 vs rvs => by
            obtain ⟨z, ez, rfl⟩ := up_some h2
            exact mth_ok cx ez so2 (Rep.mono gr2 _ _ rv) rvs fun F' m' H' gr so' => po F' m' H' ((gr1.trans gr2).trans gr) so'
          exact ha ρ μ1 rb eb R F1 m1 σ H1 _ so1 (ro.mono gr1) pb
        · cases h1
      exact ho ρ μ ra ea R F m σ H _ so ro pa
theorem plain_ix {y : Expr} (h : notSlice y = true) : PlainIx y := by
  intro o i
  cases y <;> first | rfl | cases h
theorem sub_true {y : Expr} (h : notSlice y = true) (o i : Value) : subscripted y true o i = runValue (.builtin "lifetime.subscript" ⟨[o, i], []⟩) := by
  cases y <;> first | rfl | cases h
theorem subT_ok (cx : CxOk g ct W X) (fo : FnsOk g T ct.nm) {value slice : Expr} (hs : notSlice slice = true) {x y : D} {v u : V} {μ : Store} {r : Except Exc D × Store} {R F : Hp} {m : List Addr} {σ : St} {H : Hp} {Q : VK} (h : subT T x y μ = some r)
    (so : SOk g.B R F m μ H) (rx : Rep g.B F m x v) (ry : Rep g.B F m y u) (po : Post g.B R W σ F m r (QE g Q)) : SBs X σ (PyProof.Rows.subscriptTail value slice) v u H Q := by
  unfold subT at h
  split at h
  · split at h
    · rename_i f hf
      obtain ⟨c', fs', a, C, dx, fv, cl, rfl, rfl, e2, e3, ok, ha, fa, hfa, hM, hfn⟩ := opN_at fo so hf rx
      intro pins s v' u' I rv ru
      cases (show v' = Value.ref a from rv)
      obtain ⟨mA, O, _⟩ := ins_get I.hok ha
      obtain ⟨od, J, _⟩ := O.look
      obtain ⟨mf, hF⟩ := I.fr
      have run := call_in1 cx fo hfa h so ⟨.ref a, [u], rfl, rx, u, [], rfl, ry, rfl⟩ po pins s [.ref a, u'] I (.cons rfl (.cons ru .nil))
      exact PySem.W.sub_K hF I.ok.mod.kin J (by rw [cx.K]; exact hM.at_) (by rw [cx.K]; exact hfn) (by rw [cx.K]; exact hM.fn) (wpAny_call run) (sub_true hs _ _)
    · cases h
  · obtain ⟨z, ez, rfl⟩ := up_some h
    intro pins s v' u' I rv ru
    exact sub_ok cx (plain_ix hs) ez so (look_ok so rx) (look_ok so ry) (fun w rw' => po F m H (Grow.refl _ _) so w rw') pins s σ v' u' I rv ru
theorem je_sub (cx : CxOk g ct W X) (fo : FnsOk g T ct.nm) {o y : Expr} {io iy : E} {pos : Pos} (hs : notSlice y = true) (ho : JE g W X o (evalE T io)) (hy : JE g W X y (evalE T iy)) : JE g W X (.Subscript o y pos) (evalE T (.sub io iy)) := by
  intro ρ μ r h R F m σ H Q so ro po
  simp only [evalE] at h
  refine SE.of (pe_sxs (pe_se X o) (pe_se X y)) ?_
  obtain ⟨ra, ea, pa⟩ := bd_post h po (Ka := QE g fun v H1 => SE X y σ H1 fun u H2 => SBs X σ (PyProof.Rows.subscriptTail o y) v u H2 Q) fun d1 μ1 e1 h1 F1 m1 H1 gr1 so1 v rv => by
    obtain ⟨rb, eb, pb⟩ := bd_post h1 (po.grow gr1) (Ka := QE g fun u H2 => SBs X σ (PyProof.Rows.subscriptTail o y) v u H2 Q) fun d2 μ2 e2 h2 F2 m2 H2 gr2 so2 u ru =>
      subT_ok cx fo hs h2 so2 (Rep.mono gr2 _ _ rv) ru (po.grow (gr1.trans gr2))
    exact hy ρ μ1 rb eb R F1 m1 σ H1 _ so1 (ro.mono gr1) pb
  exact ho ρ μ ra ea R F m σ H _ so ro pa
theorem je_get (cx : CxOk g ct W X) {o y z : Expr} {io iy iz : E} {apos pos : Pos} (hs : notSuper o = true) (hl : (apos.endLine == pos.line) = true) (h1 : notStar y = true) (h2 : notStar z = true) (ho : JE g W X o (evalE T io)) (hy : JE g W X y (evalE T iy)) (hz : JE g W X z (evalE T iz)) :
    JE g W X (.Call (.Attribute o "get" apos) [y, z] [] pos) (evalE T (.get io iy iz)) := by
  intro ρ μ r h R F m σ H Q so ro po
  simp only [evalE] at h
  have tr : backTo pos (starEach [y, z] X.env) = [(false, eval y X.env), (false, eval z X.env)] := by
    rw [star_cons h1, star_cons h2]
    rfl
  have mm : M2 X o "get" apos y z pos := ⟨base_of hs, by rw [tr]; rfl, hl, tr⟩
  refine SE.of (pe_dget2 (by have := cx.room.units; omega) (pe_se X o) (pe_se X y) (pe_se X z) mm) ?_
  obtain ⟨ra, ea, pa⟩ := bd_post h po (Ka := QE g fun v H1 => ∃ a, v = .ref a ∧ IsD H1 a ∧ SE X y σ H1 fun k H2 => SE X z σ H2 fun w' H3 => ∃ oo, DGet H3 a k oo ∧ Q (oo.getD w') H3) fun d1 μ1 e1 h1 F1 m1 H1 gr1 so1 v rv => by
    split at h1
    · rename_i ks0 xs0 e0
      have s0 := look_ok so1 rv
      rw [e0] at s0
      obtain ⟨a, vs0, rfl, hH0, _, _⟩ := s0
      refine ⟨a, rfl, .inl ⟨_, .inl hH0⟩, ?_⟩
      obtain ⟨rb, eb, pb⟩ := bd_post h1 (po.grow gr1) (Ka := QE g fun k H2 => SE X z σ H2 fun w' H3 => ∃ oo, DGet H3 a k oo ∧ Q (oo.getD w') H3) fun d2 μ2 e2 h2 F2 m2 H2 gr2 so2 k rk => by
        obtain ⟨rc, ec, pc⟩ := bd_post h2 (po.grow (gr1.trans gr2)) (Ka := QE g fun w' H3 => ∃ oo, DGet H3 a k oo ∧ Q (oo.getD w') H3) fun d3 μ3 e3 h3 F3 m3 H3 gr3 so3 w' rw' => by
          split at h3
          · rename_i ks xs kk ed ek
            have e := Option.some.inj h3
            subst e
            have s3 := look_ok so3 (Rep.mono (gr2.trans gr3) _ _ rv)
            rw [ed] at s3
            obtain ⟨a', vs, ea', hH, hln, rr⟩ := s3
            cases ea'
            have ekk := keyD_ok ek (Rep.mono gr3 _ _ rk)
            subst ekk
            refine ⟨valV (ks.zip vs) kk, DGet.k hH, ?_⟩
            have hd := dAt_ok hln rr kk
            refine po F3 m3 H3 ((gr1.trans gr2).trans gr3) so3 _ ?_
            cases e4 : dAt ks xs kk with
            | none =>
              rw [e4] at hd
              rw [show valV (ks.zip vs) kk = none from hd]
              exact rw'
            | some dd =>
              rw [e4] at hd
              obtain ⟨w2, hw2, rw2⟩ := hd
              rw [hw2]
              exact rw2
          · cases h3
        exact hz ρ μ2 rc ec R F2 m2 σ H2 _ so2 (ro.mono (gr1.trans gr2)) pc
      exact hy ρ μ1 rb eb R F1 m1 σ H1 _ so1 (ro.mono gr1) pb
    · cases h1
  exact ho ρ μ ra ea R F m σ H _ so ro pa
theorem jo_none : JO g W X none (evalO T none) := by
  intro ρ μ r h R F m σ H Q so ro po
  simp only [evalO] at h
  have e := rt_some h
  subst e
  exact fun pins s I => po_none.run pins s σ H Q I (po F m H (Grow.refl F m) so)
theorem jo_some {e : Expr} {ie : E} (he : JE g W X e (evalE T ie)) : JO g W X (some e) (evalO T (some ie)) := by
  intro ρ μ r h R F m σ H Q so ro po
  simp only [evalO] at h
  refine fun pins s I => (po_some (pe_se X e)).run pins s σ H Q I ?_
  obtain ⟨ra, ea, pa⟩ := bd_post h po (Ka := QE g fun x H1 => ∃ i, x = .int i ∧ Q (some i) H1) fun d μ1 e1 h1 F1 m1 H1 gr1 so1 v rv => by
    split at h1
    · rename_i i
      have rv : v = .int i := rv
      subst rv
      have e := rt_some h1
      subst e
      exact ⟨i, rfl, po F1 m1 H1 gr1 so1⟩
    · cases h1
  exact he ρ μ ra ea R F m σ H _ so ro pa
theorem je_slc (cx : CxOk g ct W X) {o : Expr} {lo hi : Option Expr} {io : E} {il ih : Option E} {pos p2 : Pos} (ho : JE g W X o (evalE T io)) (hl : JO g W X lo (evalO T il)) (hh : JO g W X hi (evalO T ih)) :
    JE g W X (.Subscript o (.Slice lo hi none p2) pos) (evalE T (.slc io il ih)) := by
  intro ρ μ r h R F m σ H Q so ro po
  simp only [evalE] at h
  refine SE.of (pe_slice (sl_sz X) (pe_se X o) (po_so X lo) (po_so X hi)) ?_
  obtain ⟨ra, ea, pa⟩ := bd_post h po (Ka := QE g fun v H1 => SO X lo σ H1 fun l H2 => SO X hi σ H2 fun u H3 => SZ X v l u H3 Q) fun d1 μ1 e1 h1 F1 m1 H1 gr1 so1 v rv => by
    obtain ⟨rb, eb, pb⟩ := bd_post h1 (po.grow gr1) (Ka := fun _ _ H2 l => SO X hi σ H2 fun u H3 => SZ X v l u H3 Q) fun l μ2 e2 h2 F2 m2 H2 gr2 so2 => by
      obtain ⟨rc, ec, pc⟩ := bd_post h2 (po.grow (gr1.trans gr2)) (Ka := fun _ _ H3 u => SZ X v l u H3 Q) fun u μ3 e3 h3 F3 m3 H3 gr3 so3 => by
        obtain ⟨z, ez, rfl⟩ := up_some h3
        exact slc_ok cx ez so3 (look_ok so3 (Rep.mono (gr2.trans gr3) _ _ rv)) fun F' m' H' gr so' => po F' m' H' (((gr1.trans gr2).trans gr3).trans gr) so'
      exact hh ρ μ2 rc ec R F2 m2 σ H2 _ so2 (ro.mono (gr1.trans gr2)) pc
    exact hl ρ μ1 rb eb R F1 m1 σ H1 _ so1 (ro.mono gr1) pb
  exact ho ρ μ ra ea R F m σ H _ so ro pa

/-! ### tests -/
theorem jt_not {a : Expr} {pos : Pos} {ia : B} (ha : JT g W X a (evalT T ia)) : JT g W X (.UnaryOp .Not a pos) (evalT T (.not ia)) := by
  intro ρ μ r h R F m σ H Q so ro po
  simp only [evalT] at h
  refine ST.of (pt_not (pt_st X a)) ?_
  obtain ⟨ra, ea, pa⟩ := bd_post h po (Ka := fun _ _ H' k => Q (!k) H') fun k μ1 e1 h1 F1 m1 H1 gr1 so1 => by
    have e := rt_some h1
    subst e
    exact po F1 m1 H1 gr1 so1
  exact ha ρ μ ra ea R F m σ H _ so ro pa
/-- a test whatever its whole is -/
def JW (g : Gx) (W : WX) (X : Cx) (e : Expr) (f : Rho → M Bool) : Prop := ∀ ρ μ r, f ρ μ = some r → ∀ R F m σ H (Q : Bool → Hp → Prop), SOk g.B R F m μ H → ROk g.B F m ρ σ → Post g.B R W σ F m r (fun _ _ H' b => Q b H') →
  ∀ (whole : Sem Value) (pins : List (Addr × Obj)) (s : Shared), L2.Inv X pins σ H s → wpAny (model X.prog X.w) X.A (isTrue e X.env whole) (TP X pins σ Q) X.xe s
def SW (X : Cx) (e : Expr) : TT := fun σ H Q => ∀ (whole : Sem Value) (pins : List (Addr × Obj)) (s : Shared), L2.Inv X pins σ H s → wpAny (model X.prog X.w) X.A (isTrue e X.env whole) (TP X pins σ Q) X.xe s
theorem pw_sw (X : Cx) (e : Expr) : PW X e (SW X e) := ⟨fun whole pins s σ H Q I h => h whole pins s I⟩
theorem JW.jt {e : Expr} {f : Rho → M Bool} (h : JW g W X e f) : JT g W X e f := fun ρ μ r hf R F m σ H Q so ro po pins s I => h ρ μ r hf R F m σ H Q so ro po _ pins s I
theorem jw_and1 {a : Expr} {pos : Pos} {f : Rho → M Bool} (ha : JT g W X a f) : JW g W X (.BoolOp .And [a] pos) f := fun ρ μ r h R F m σ H Q so ro po whole pins s I =>
  (pw_and1 (pt_st X a)).run whole pins s σ H Q I (ha ρ μ r h R F m σ H Q so ro po)
theorem jw_or1 {a : Expr} {pos : Pos} {f : Rho → M Bool} (ha : JT g W X a f) : JW g W X (.BoolOp .Or [a] pos) f := fun ρ μ r h R F m σ H Q so ro po whole pins s I =>
  (pw_or1 (pt_st X a)).run whole pins s σ H Q I (ha ρ μ r h R F m σ H Q so ro po)
theorem jw_and {a b : Expr} {rest : List Expr} {pos : Pos} {ia ib : B} (ha : JT g W X a (evalT T ia)) (hb : JW g W X (.BoolOp .And (b :: rest) pos) (evalT T ib)) : JW g W X (.BoolOp .And (a :: b :: rest) pos) (evalT T (.and ia ib)) := by
  intro ρ μ r h R F m σ H Q so ro po whole pins s I
  simp only [evalT] at h
  refine (pw_and (pt_st X a) (pw_sw X _)).run whole pins s σ H Q I ?_
  obtain ⟨ra, ea, pa⟩ := bd_post h po (Ka := fun _ _ H' k => if k = true then SW X (.BoolOp .And (b :: rest) pos) σ H' Q else Q false H') fun k μ1 e1 h1 F1 m1 H1 gr1 so1 => by
    cases k with
    | true => exact iteT fun whole pins s I => hb ρ μ1 r h1 R F1 m1 σ H1 Q so1 (ro.mono gr1) (po.grow gr1) whole pins s I
    | false =>
      have e := rt_some (show rt false μ1 = some r from h1)
      subst e
      exact iteF (po F1 m1 H1 gr1 so1)
  exact ha ρ μ ra ea R F m σ H _ so ro pa
theorem jw_or {a b : Expr} {rest : List Expr} {pos : Pos} {ia ib : B} (ha : JT g W X a (evalT T ia)) (hb : JW g W X (.BoolOp .Or (b :: rest) pos) (evalT T ib)) : JW g W X (.BoolOp .Or (a :: b :: rest) pos) (evalT T (.or ia ib)) := by
  intro ρ μ r h R F m σ H Q so ro po whole pins s I
  simp only [evalT] at h
  refine (pw_or (pt_st X a) (pw_sw X _)).run whole pins s σ H Q I ?_
  obtain ⟨ra, ea, pa⟩ := bd_post h po (Ka := fun _ _ H' k => if k = true then Q true H' else SW X (.BoolOp .Or (b :: rest) pos) σ H' Q) fun k μ1 e1 h1 F1 m1 H1 gr1 so1 => by
    cases k with
    | false => exact iteF fun whole pins s I => hb ρ μ1 r h1 R F1 m1 σ H1 Q so1 (ro.mono gr1) (po.grow gr1) whole pins s I
    | true =>
      have e := rt_some (show rt true μ1 = some r from h1)
      subst e
      exact iteT (po F1 m1 H1 gr1 so1)
  exact ha ρ μ ra ea R F m σ H _ so ro pa
theorem plain_t {e : Expr} {env : Env} (h : plainT e = true) : ∀ whole : Sem Value, isTrue e env whole = (do
    let v ← whole
    standAt e.pos
    holding [v] (truthy v)) := by
  intro whole
  cases e <;> first | rfl | cases h | skip
  rename_i op x pos
  cases op <;> first | rfl | cases h
theorem jt_val (cx : CxOk g ct W X) {e : Expr} {ie : E} (hp : plainT e = true) (he : JE g W X e (evalE T ie)) : JT g W X e (evalT T (.val ie)) := by
  intro ρ μ r h R F m σ H Q so ro po
  simp only [evalT] at h
  refine ST.of (pt_truth (pe_se X e) (plain_t hp)) ?_
  obtain ⟨ra, ea, pa⟩ := bd_post h po (Ka := QE g fun v H1 => ∃ k, TruV X.K v H1 k ∧ Q k H1) fun d μ1 e1 h1 F1 m1 H1 gr1 so1 v rv => by
    obtain ⟨z, ez, rfl⟩ := up_some h1
    exact ⟨z, Sg.tru_ok cx so1 ez (look_ok so1 rv), po F1 m1 H1 gr1 so1⟩
  exact he ρ μ ra ea R F m σ H _ so ro pa
theorem jts_nil : JTs g W X [] (evalTs T []) := by
  intro ρ μ r h R F m σ H Q so ro po pins s I
  simp only [evalTs] at h
  have e := rt_some h
  subst e
  exact pts_nil.run pins s σ H Q I (po F m H (Grow.refl F m) so)
theorem jts_one {e : Expr} {ie : B} (he : JT g W X e (evalT T ie)) : JTs g W X [e] (evalTs T [ie]) := by
  intro ρ μ r h R F m σ H Q so ro po pins s I
  simp only [evalTs] at h
  refine (pts_one (pt_st X e)).run pins s σ H Q I ?_
  obtain ⟨ra, ea, pa⟩ := bd_post h po (Ka := fun _ _ H' k => Q k H') fun k μ1 e1 h1 F1 m1 H1 gr1 so1 => by
    cases k with
    | true =>
      have e := rt_some (show rt true μ1 = some r from h1)
      subst e
      exact po F1 m1 H1 gr1 so1
    | false =>
      have e := rt_some (show rt false μ1 = some r from h1)
      subst e
      exact po F1 m1 H1 gr1 so1
  exact he ρ μ ra ea R F m σ H _ so ro pa
end
end Sg
/-! Sg7o: objects: attributes, properties, methods, classmethods, new objects. -/
namespace Sg
open PySem L2
section
variable {g : Gx} {ct : CT} {W : WX} {X : Cx} {T : Tab}

/-! ### attributes -/
def SAts (X : Cx) (σ : St) (nm : Str) : V → Hp → VK → Prop := fun x H Q => ∀ (pins : List (Addr × Obj)) (s : Shared) (v : Value), L2.Inv X pins σ H s → RelV x v → wpAny (model X.prog X.w) X.A (getAttr v nm true) (EP X pins σ Q) X.xe s
theorem pe_ats {e : Expr} {ta : TE} {nm : Str} {pos : Pos} (ha : PE X e ta) (hb : attributeBase e nm X.env (eval e X.env) = eval e X.env) : PE X (.Attribute e nm pos) (fun σ H Q => ta σ H fun x H1 => SAts X σ nm x H1 Q) :=
  ⟨fun pins s σ H Q I h => attr_of hb (thn (ha.run pins s σ H _ I h) fun u s1 ⟨x, H1, I1, rx, q⟩ => q pins s1 u I1 rx)⟩
theorem lookup_zip {x : Str} : ∀ {ns : List Str} {vs : List V} {i : Nat} {v : V}, ns.idxOf? x = some i → vs[i]? = some v → (ns.zip vs).lookup x = some v
  | [], _, _, _, h, _ => by cases h
  | n :: ns, [], _, _, _, h => by simp at h
  | n :: ns, w :: vs, i, v, h, hv => by
    rw [List.idxOf?_cons] at h
    by_cases q : n = x
    · subst q
      simp at h
      subst h
      simp at hv
      subst hv
      simp [List.zip_cons_cons, List.lookup_cons]
    · have qb : (n == x) = false := beq_eq_false_iff_ne.mpr q
      rw [qb] at h
      simp only [Bool.false_eq_true, if_false] at h
      obtain ⟨j, hj, rfl⟩ := Option.map_eq_some_iff.mp h
      have q2 : (x == n) = false := beq_eq_false_iff_ne.mpr fun e => q e.symm
      rw [List.zip_cons_cons, List.lookup_cons, q2]
      exact lookup_zip hj (by simpa using hv)
theorem idx_mem {x : Str} : ∀ {ns : List Str} {i : Nat}, ns.idxOf? x = some i → x ∈ ns
  | [], _, h => by cases h
  | n :: ns, i, h => by
    rw [List.idxOf?_cons] at h
    by_cases q : n = x
    · subst q
      exact List.mem_cons_self
    · have qb : (n == x) = false := beq_eq_false_iff_ne.mpr q
      rw [qb] at h
      simp only [Bool.false_eq_true, if_false] at h
      obtain ⟨j, hj, _⟩ := Option.map_eq_some_iff.mp h
      exact List.mem_cons_of_mem _ (idx_mem hj)
theorem att_ok (cx : CxOk g ct W X) (fo : FnsOk g T ct.nm) {nm : Str} {d : D} {v : V} {μ : Store} {r : Except Exc D × Store} {R F : Hp} {m : List Addr} {σ : St} {H : Hp} {Q : VK} (h : attT T nm d μ = some r)
    (so : SOk g.B R F m μ H) (rv : Rep g.B F m d v) (po : Post g.B R W σ F m r (QE g Q)) : SAts X σ nm v H Q := by
  unfold attT at h
  split at h
  · rename_i c fs ho
    obtain ⟨a, C, dx, ns, vs, rfl, hc, hH, rr, hl⟩ := ins_at so ho rv
    split at h
    · rename_i cl ecl
      obtain ⟨C', hC', ok⟩ := fo.cl c cl ecl
      rw [hC'] at hc
      cases hc
      intro pins s v' I rx
      cases (show v' = Value.ref a from rx)
      have kC : L2.Cls X.K C := by
        rw [cx.K]
        exact ok.cls
      split at h
      · rename_i i hi
        obtain ⟨z, ez, rfl⟩ := up_some h
        obtain ⟨w, hw, rw'⟩ := rr.get i z ez
        refine getattr_ok I hH kC (by rw [cx.K]; exact ok.no nm (idx_mem hi)) (lookup_zip hi hw) fun u s2 I2 ru => ⟨w, H, I2, ru, po F m H (Grow.refl _ _) so w rw'⟩
      · split at h
        · rename_i f hf
          obtain ⟨fa, hfa, p, hp⟩ := ok.ps nm f hf
          obtain ⟨mA, O, _⟩ := ins_get I.hok hH
          obtain ⟨od, J, _⟩ := O.look
          have I1 := I.tok (s.toks + 1)
          obtain ⟨t, e1, e2⟩ : ∃ t, T.fns[f]? = some t ∧ t [d] μ = some r := by
            cases e1 : T.fns[f]? with
            | none =>
              simp only [callT, e1] at h
              cases h
            | some t =>
              simp only [callT, e1] at h
              exact ⟨t, rfl, h⟩
          obtain ⟨fa', hfa', F0⟩ := fo.fn f t e1
          rw [hfa] at hfa'
          cases hfa'
          have run := fn_at2 cx fo F0 cx.room.in1 cx.gu e2 so (RepL.one rv) po pins { s with toks := s.toks + 1 } [.ref a] I1 I1.env0.in1 (.cons rfl .nil)
          have hp : PropOf X.K C nm p fa := by
            rw [cx.K]
            exact hp
          obtain ⟨rest, hrec⟩ := hp.rec_
          have hs : (PySem.W.clsIn X.K C).isSome = true := by
            obtain ⟨cd, e, _⟩ := PySem.W.any_some kC.hd
            rw [e]
            rfl
          obtain ⟨g1, g2⟩ := PySem.W.plainGet_of (kC.get nm)
          refine PySem.W.get_bind I.kIn J g1 (PySem.W.findObj_data hs hp.at_ hp.get hp.tak) g2 (wpAny_call (PySem.W.prop_get (s := { s with toks := s.toks + 1 }) I.kIn hrec (codeAny_mono run fun r' s' hq => ?_)))
          cases r' with
          | error er => exact note_x cx hq
          | ok fl =>
            cases fl with
            | ret u =>
              obtain ⟨z, H', I3, rz, q3⟩ := hq
              refine wpAny_of_eq (PySem.W.handedOut_of (handed_of rz)) ?_
              exact ⟨z, H', I3, rz, q3⟩
            | next => exact False.elim hq
            | brk => exact False.elim hq
            | cont => exact False.elim hq
        · cases h
    · cases h
  · cases h
theorem je_att (cx : CxOk g ct W X) (fo : FnsOk g T ct.nm) {o : Expr} {io : E} {nm : Str} {pos : Pos} (hs : notSuper o = true) (ho : JE g W X o (evalE T io)) : JE g W X (.Attribute o nm pos) (evalE T (.att io nm)) := by
  intro ρ μ r h R F m σ H Q so ro po
  simp only [evalE] at h
  refine SE.of (pe_ats (pe_se X o) (base_of hs)) ?_
  obtain ⟨ra, ea, pa⟩ := bd_post h po (Ka := QE g fun v H1 => SAts X σ nm v H1 Q) fun d μ1 e1 h1 F1 m1 H1 gr1 so1 v rv => att_ok cx fo h1 so1 rv (po.grow gr1)
  exact ho ρ μ ra ea R F m σ H _ so ro pa

/-! ### methods -/
theorem call_of {M : Model} {A : Around} {E : Value → Shared → Prop} {s : Shared} {env : Env} {o : Expr} {nm : Str} {apos pos : Pos} {args : List Expr} {Q : Value → Shared → Prop} (hb : attributeBase o nm env (eval o env) = eval o env)
    (hf : methodCallForm (args.length + ([] : List Keyword).length) (backTo pos (starEach args env)) (backToKw pos (keywordEach [] env)) = true) (hl : (apos.endLine == pos.line) = true)
    (h : wpAny M A (eval o env) (fun ov s1 => ∀ pl, wpAny M A (getMethod ov nm pl) (fun fx s2 => wpAny M A (callWith pos fx.1 fx.2 (backTo pos (starEach args env)) []) Q E s2) E s1) E s) :
    wpAny M A (eval (.Call (.Attribute o nm apos) args [] pos) env) Q E s := by
  rw [arm_eval_Call, hb]
  refine wpAny_bind (wpAny_mono h (fun ov s1 h1 => wpAny_bind (wpAny_standAt ?_)) fun _ _ e => e)
  have hp : methodCallPos true o env apos pos = pure pos := by
    unfold methodCallPos
    simp [hl]
  unfold methodCall
  rw [hf]
  refine wpAny_bind (wpAny_holding (wpAny_mono (h1 _) (fun fx s2 h2 => ?_) fun _ _ e => e))
  exact wpAny_bind (wpAny_of_eq hp h2)
theorem form_ok {es : List E} {xs : List Expr} {pos : Pos} {env : Env} (hst : noStars es = true) (hc : chkL ct es xs = true) (h30 : xs.length < 30) :
    methodCallForm (xs.length + ([] : List Keyword).length) (backTo pos (starEach xs env)) (backToKw pos (keywordEach [] env)) = true := by
  unfold methodCallForm
  rw [star_all hst hc]
  show (true && true && decide (xs.length + 0 + 0 < 30)) = true
  rw [Nat.add_zero, decide_eq_true h30]
  rfl
theorem je_met (cx : CxOk g ct W X) (fo : FnsOk g T ct.nm) {o : Expr} {nm : Str} {xs : List Expr} {io : E} {es : List E} {apos pos : Pos} (hs : notSuper o = true) (hl : (apos.endLine == pos.line) = true) (hst : noStars es = true) (hc : chkL ct es xs = true) (h30 : xs.length < 30)
    (ho : JE g W X o (evalE T io)) (ha : JA g W X xs (evalL T es)) : JE g W X (.Call (.Attribute o nm apos) xs [] pos) (evalE T (.met io nm es)) := by
  intro ρ μ r h R F m σ H Q so ro po
  simp only [evalE] at h
  intro pins s I
  refine call_of (base_of hs) (form_ok hst hc h30) hl ?_
  obtain ⟨ra, ea, pa⟩ := bd_post h po (Ka := QE g fun v H1 => ∀ (s1 : Shared) (v' : Value), L2.Inv X pins σ H1 s1 → RelV v v' → ∀ pl, wpAny (model X.prog X.w) X.A (getMethod v' nm pl) (fun fx s2 => wpAny (model X.prog X.w) X.A (callWith pos fx.1 fx.2 (backTo pos (starEach xs X.env)) []) (EP X pins σ Q) X.xe s2) X.xe s1) fun d μ1 e1 h1 F1 m1 H1 gr1 so1 v rv => by
    split at h1
    · rename_i f hf
      unfold metN at hf
      split at hf
      · rename_i c fs hob
        obtain ⟨a, C, dx, ns, vs, rfl, hcl, hH, rr, hlen⟩ := ins_at so1 hob rv
        split at hf
        · rename_i cl ecl
          obtain ⟨C', hC', ok⟩ := fo.cl c cl ecl
          rw [hC'] at hcl
          cases hcl
          intro s1 v' I1 rx pl
          cases (show v' = Value.ref a from rx)
          obtain ⟨fa, hfa, hno, hM, hfn⟩ := ok.ms nm f hf
          have hM : Meth X.K C nm fa := by
            rw [cx.K]
            exact hM
          have hlk : ((cl.fs.zip vs).lookup nm) = none := by
            rw [List.lookup_eq_none_iff]
            intro p hp
            have hm : p.1 ∈ cl.fs := (List.of_mem_zip hp).1
            have hne : nm ≠ p.1 := fun e => by
              rw [e] at hno
              exact hno hm
            exact bne_iff_ne.mpr hne
          refine getmeth_ok I1 hH (by rw [cx.K]; exact ok.cls) hM hlk ?_
          refine args_with (ct := ct) (first := [.ref a]) hM.kp hst hc ha h1 so1 (ro.mono gr1) (po.grow gr1) (fun ds μ2 F2 m2 H2 h2 gr2 so2 vs2 rv2 pins2 s2 us2 I2 ru2 => ?_) I1
          exact call_run cx fo hfa h2 so2 ⟨.ref a, vs2, rfl, Rep.mono gr2 _ _ rv, rv2⟩ ((po.grow gr1).grow gr2) pins2 s2 (.ref a :: us2) I2 (.cons rfl ru2)
        · cases hf
      · cases hf
    · cases h1
  exact thn (ho ρ μ ra ea R F m σ H _ so ro pa pins s I) fun u s1 ⟨x, H1, I1, rx, q⟩ => fun pl => q s1 u I1 rx pl

/-! ### new objects -/
theorem mk_ok (cx : CxOk g ct W X) (fo : FnsOk g T ct.nm) {c : Nat} {a0 : Addr} {ns0 : List Str} (hcl : g.B.cls[c]? = some (a0, ns0)) {ds : List D} {vs : List V} {μ : Store} {r : Except Exc D × Store} {R F : Hp} {m : List Addr} {σ : St} {H : Hp} {Q : VK} (h : mkT T c ds μ = some r)
    (so : SOk g.B R F m μ H) (rv : RepL g.B F m ds vs) (po : Post g.B R W σ F m r (QE g Q)) :
    ∀ (pins : List (Addr × Obj)) (s : Shared) (us : List Value), L2.Inv X pins σ H s → Vals vs us → wpAny (model X.prog X.w) X.A (call (.ref a0) us) (EP X pins σ Q) X.xe s := by
  intro pins s us I ru
  unfold mkT at h
  split at h
  · cases h
  rename_i cl ecl
  obtain ⟨C, hC, ok⟩ := fo.cl c cl ecl
  rw [hC] at hcl
  cases hcl
  obtain ⟨f, hf, hM⟩ := ok.ini
  have hM : Mk X.K a0 f := by
    rw [cx.K]
    exact hM
  -- the new object and its dict
  have fdx : H s.heap.objs.size = none := I.hok.fresh (Nat.le_refl _)
  have fx : H (s.heap.objs.size + 1) = none := I.hok.fresh (Nat.le_succ _)
  have so1 : SOk g.B R F m μ (upd H s.heap.objs.size (.own (s.heap.objs.size + 1))) := so.leak fdx
  have fx1 : upd H s.heap.objs.size (.own (s.heap.objs.size + 1)) (s.heap.objs.size + 1) = none := by
    rw [upd_ne (Nat.succ_ne_self _)]
    exact fx
  obtain ⟨gr, so2⟩ := so1.newLive (c := .obj c []) (o := .ins a0 s.heap.objs.size []) fx1 ⟨a0, s.heap.objs.size, cl.fs, [], by rw [List.zip_nil_right], hC, Nat.zero_le _, rfl⟩ rfl
  have I2 := Inv.made (C := a0) I
  have mx : (m ++ [s.heap.objs.size + 1])[μ.length]? = some (s.heap.objs.size + 1) := by
    rw [← so.len, List.getElem?_append_right (Nat.le_refl _), Nat.sub_self]
    rfl
  have rv2 : RepL g.B F (m ++ [s.heap.objs.size + 1]) (.ref μ.length :: ds) (V.ref (s.heap.objs.size + 1) :: vs) := ⟨_, _, rfl, ⟨_, mx, rfl⟩, RepL.mono gr _ _ rv⟩
  have grow_cut : ∀ {F' : Hp} {m' : List Addr}, Grow F (m ++ [s.heap.objs.size + 1]) F' m' → Grow F m F' (m'.take μ.length) := fun {F' m'} g' => ⟨g'.sub, fun k b ek => by
    have hk : k < μ.length := by
      rw [← so.len]
      exact (List.getElem?_eq_some_iff.mp ek).1
    rw [List.getElem?_take_of_lt hk]
    exact g'.pre _ _ (gr.pre _ _ ek)⟩
  cases e : callT T cl.ini (.ref μ.length :: ds) (μ ++ [.obj c []]) with
  | none =>
    rw [e] at h
    cases h
  | some r' =>
    rw [e] at h
    obtain ⟨r1, μ'⟩ := r'
    have run : Post g.B R W σ F (m ++ [s.heap.objs.size + 1]) (r1, μ') (QE g fun v H' => v = .non ∧ Q (.ref (s.heap.objs.size + 1)) H') := by
      cases r1 with
      | error x =>
        have h : (if D.nrL x.ds then some (Except.error x, μ'.take μ.length) else none) = some r := h
        split at h
        · rename_i hd
          have h := Option.some.inj h
          subst h
          intro F' m' H' cls dx g' so' rx
          refine po F' (m'.take μ.length) H' cls dx (grow_cut g') (so'.cut _) ?_
          obtain ⟨ns, h1, h2⟩ := rx
          refine ⟨ns, h1, ?_⟩
          rcases h2 with h2 | ⟨hn, d, vs, h3, h4, h5, h6⟩
          · exact .inl h2
          · exact .inr ⟨hn, d, vs, h3, h4, h5, RepL.any _ _ hd h6⟩
        · cases h
      | ok d =>
        cases d with
        | non =>
          have h : (match μ'[μ.length]? with
            | some (.obj c' fs) => if c' = c ∧ fs.length = cl.fs.length ∧ μ'.length = μ.length + 1 then some (Except.ok (D.ins c fs), μ'.take μ.length) else none
            | _ => none) = some r := h
          split at h
          · rename_i c' fs hk
            split at h
            · rename_i hc
              obtain ⟨rfl, hl, _⟩ := hc
              have h := Option.some.inj h
              subst h
              intro F' m' H' g' so' v hv
              have hv : v = .non := hv
              subst hv
              refine ⟨rfl, ?_⟩
              have ex : m'[μ.length]? = some (s.heap.objs.size + 1) := g'.pre _ _ mx
              obtain ⟨hF, o, ho, C1, dx1, ns1, vs1, rfl, hc1, hl1, rr⟩ := so'.live hk ex fun _ => nofun
              rw [hC] at hc1
              cases hc1
              have hnr := so'.nr _ _ hk
              have g0 : Grow F' m' (upd F' (s.heap.objs.size + 1) (.ins a0 dx1 (cl.fs.zip vs1))) m' := Grow.new hF
              have rp : Rep g.B (upd F' (s.heap.objs.size + 1) (.ins a0 dx1 (cl.fs.zip vs1))) m' (.ins c' fs) (.ref (s.heap.objs.size + 1)) :=
                ⟨_, a0, dx1, cl.fs, vs1, rfl, hC, by rw [← rr.length]; exact hl.symm, upd_same, RepL.mono g0 _ _ rr⟩
              obtain ⟨gr3, so3⟩ := so'.freeze (d := .ins c' fs) ex hF ho hnr rp
              have so4 := so3.cut μ.length
              rw [List.take_set_of_le (Nat.le_refl _)] at so4
              have gr5 : Grow F m (upd F' (s.heap.objs.size + 1) (.ins a0 dx1 (cl.fs.zip vs1))) (m'.take μ.length) := ⟨(grow_cut g').sub.trans gr3.sub, (grow_cut g').pre⟩
              exact po _ _ H' gr5 so4 _ (Rep.any _ _ hnr rp)
            · cases h
          · cases h
        | _ => cases h
    unfold callT at e
    cases e1 : T.fns[cl.ini]? with
    | none =>
      rw [e1] at e
      cases e
    | some t =>
      rw [e1] at e
      obtain ⟨f', hf', F0⟩ := fo.fn _ t e1
      rw [hf] at hf'
      cases hf'
      have hA : g.gd = true → (X.A.under (.builtin "type.__call__" ⟨.ref a0 :: us, []⟩)).guards = some [] := fun hg => by
        have hq := cx.gu hg
        have hc : (Code.builtin "type.__call__" ⟨.ref a0 :: us, []⟩).isGuard = false := by first | rfl | decide +kernel | kernel_rfl
        unfold Around.under Code.guards pushGuards
        simp [hc, hq]
      have z := fn_at cx F0 (cx.room.make a0 us []) hA e so2 rv2 run pins _ (.ref (s.heap.objs.size + 1) :: us) I2 (I2.env0.make a0 us []) (.cons rfl ru)
      refine wpAny_call (make_map (f := f) I.kIn hM.makes hM.init (beq_iff_eq.mp hM.fn) (codeAny_mono z fun r2 s' hq => ?_))
      cases r2 with
      | error er => exact hq
      | ok fl =>
        cases fl with
        | ret u =>
          obtain ⟨v, H', I3, rv', ev, q3⟩ := hq
          subst ev
          exact ⟨rv', ⟨V.ref (s.heap.objs.size + 1), H', I3, rfl, q3⟩⟩
        | next => exact False.elim hq
        | brk => exact False.elim hq
        | cont => exact False.elim hq
theorem je_mk (cx : CxOk g ct W X) (fo : FnsOk g T ct.nm) {x : Str} {xs : List Expr} {c : Nat} {es : List E} {p pos : Pos} (hg : chkG ct x = true) (hx : ct.nm.cls[c]? = some x) (hst : noStars es = true) (hc : chkL ct es xs = true) (ha : JA g W X xs (evalL T es)) :
    JE g W X (.Call (.Name x p) xs [] pos) (evalE T (.mk c es)) := by
  intro ρ μ r h R F m σ H Q so ro po
  obtain ⟨g1, g2⟩ := chkG_of cx hg
  simp only [evalE] at h
  intro pins s I
  obtain ⟨C, ns, hcl, hm⟩ := fo.cln c x hx
  refine wpAny_Call_Name_kw (ld_glob I g1 (by rw [cx.mg]; exact hm) ?_ g2)
  refine args_with (ct := ct) (by rw [cx.K]; exact fo.clk c C ns hcl) hst hc ha h so ro po (fun ds μ1 F1 m1 H1 h1 gr1 so1 vs rv => ?_) I
  exact mk_ok cx fo hcl h1 so1 rv (po.grow gr1)
theorem je_mks (cx : CxOk g ct W X) (fo : FnsOk g T ct.nm) {x : Str} {y : Expr} {c : Nat} {a : E} {p p2 pos : Pos} (hg : chkG ct x = true) (hx : ct.nm.cls[c]? = some x) (ha : JE g W X y (evalE T a)) :
    JE g W X (.Call (.Name x p) [.Starred y p2] [] pos) (evalE T (.mks c a)) := by
  intro ρ μ r h R F m σ H Q so ro po
  obtain ⟨g1, g2⟩ := chkG_of cx hg
  simp only [evalE] at h
  intro pins s I
  obtain ⟨C, ns, hcl, hm⟩ := fo.cln c x hx
  refine wpAny_Call_Name_kw (ld_glob I g1 (by rw [cx.mg]; exact hm) ?_ g2)
  obtain ⟨ra, ea, pa⟩ := bd_post h po (Ka := QE g fun v H1 => ∃ q xs, v = V.ref q ∧ (SqT X.K H1 q xs ∨ SqL X.K H1 q xs) ∧ ∀ (pins : List (Addr × Obj)) (s : Shared) (us : List Value), L2.Inv X pins σ H1 s → Vals xs us → wpAny (model X.prog X.w) X.A (call (.ref C) us) (EP X pins σ Q) X.xe s) fun d μ1 e1 h1 F1 m1 H1 gr1 so1 v rv => by
    cases es1 : seqD d with
    | none =>
      rw [es1] at h1
      cases h1
    | some ds =>
      rw [es1] at h1
      obtain ⟨q, vs, rfl, hs, rr⟩ := seqD_ok cx so1 es1 rv
      exact ⟨q, vs, rfl, hs, mk_ok cx fo hcl h1 so1 rr (po.grow gr1)⟩
  refine PySem.W.callWith_S (h₀ := X.base) I.ok.mod.kin (by rw [cx.K]; exact fo.clk c C ns hcl) (thn (ha ρ μ ra ea R F m σ H _ so ro pa pins s I) fun v s1 ⟨z, H1, I1, rz, q, xs, ez, hs, k⟩ => ?_)
  subst ez
  cases (show v = Value.ref q from rz)
  exact StX.star_any I1 hs fun us s2 I2 ru => ⟨I2.kIn, k pins s2 us I2 ru⟩
/-! ### classmethods -/
theorem je_cm (cx : CxOk g ct W X) (fo : FnsOk g T ct.nm) {n nm : Str} {xs : List Expr} {c : Nat} {es : List E} {pn apos pos : Pos} (hg : chkG ct n = true) (hx : ct.nm.cls[c]? = some n) (hl : (apos.endLine == pos.line) = true) (hne : xs.isEmpty = false) (hst : noStars es = true) (hc : chkL ct es xs = true) (h30 : xs.length < 30) (ha : JA g W X xs (evalL T es)) :
    JE g W X (.Call (.Attribute (.Name n pn) nm apos) xs [] pos) (evalE T (.cm c nm es)) := by
  intro ρ μ r h R F m σ H Q so ro po
  obtain ⟨g1, g2⟩ := chkG_of cx hg
  simp only [evalE] at h
  intro pins s I
  obtain ⟨C, ns, hcl, hm⟩ := fo.cln c n hx
  cases ef : (T.cls[c]?).bind (fun C => C.cs.lookup nm) with
  | none =>
    rw [ef] at h
    cases h
  | some f =>
    rw [ef] at h
    obtain ⟨cl, ecl, hf⟩ := Option.bind_eq_some_iff.mp ef
    obtain ⟨C', hC', ok⟩ := fo.cl c cl ecl
    rw [hC'] at hcl
    cases hcl
    obtain ⟨fa, hfa, p, mc, cr, cmt⟩ := ok.cs nm f hf
    have cr : ClX.CRead X.K C mc := by
      rw [cx.K]
      exact cr
    have cmt : ClX.CMet X.K C mc nm p fa := by
      rw [cx.K]
      exact cmt
    refine call_of rfl (form_ok hst hc h30) hl ?_
    refine ld_glob (u := .ref C) I g1 (by rw [cx.mg]; exact hm) (fun pl => ?_) g2
    refine ClX.getmethcm_ok I cr cmt fun s2 I2 => ?_
    cases xs with
    | nil => cases hne
    | cons y ys =>
      cases es with
      | nil => cases hc
      | cons ie ies =>
        obtain ⟨n1, n2⟩ := noStars_cons hst
        obtain ⟨x, r', e, c1, c2, c3⟩ := chkL_cons n1 hc
        cases e
        obtain ⟨ra, ea, pa⟩ := bd_post h po (Ka := fun F' m' H' ds => ∀ vs, RepL g.B F' m' ds vs → ∀ (pins : List (Addr × Obj)) (s : Shared) (us : List Value), L2.Inv X pins σ H' s → Vals vs us → codeAny (model X.prog X.w) X.A (.call (.ref fa) ⟨.ref C :: us, []⟩) (fun r s' => match r with | .ok (.ret v) => EP X pins σ Q v s' | .ok _ => False | .error e => X.xe e s') s)
          fun ds μ1 e1 h1 F1 m1 H1 gr1 so1 vs rv pins3 s3 us3 I3 ru3 => call_code cx fo hfa h1 so1 ⟨.ref C, vs, rfl, ⟨C, cl.fs, hC', rfl⟩, rv⟩ (po.grow gr1) pins3 s3 (.ref C :: us3) I3 (.cons rfl ru3)
        have hA := ha ρ μ ra ea R F m σ H _ so ro pa
        refine ClX.callwith_cm I2 (ClX.base_none I (Nat.le_refl _)) cmt.fi (thn (hA pos _ s2 I2) fun us s3 ⟨vs, H2, I3, ru, q2⟩ => ⟨⟨ClX.pin_at I3, I3.kIn⟩, ?_⟩) (star_cons c1 ys X.env) (star_none n2 c3)
        have z : wpAny (model X.prog X.w) X.A (call (.ref s.heap.objs.size) us) (EP X ((s.heap.objs.size, PySem.W.methodObj (.ref fa) (.ref C)) :: pins) σ Q) X.xe s3 := by
          exact wpAny_call (PySem.W.method_call (ClX.pin_at I3) (q2 _ s3 us I3 ru))
        exact thn z fun _ _ y => ClX.unpinE y
end
end Sg
/-! Sg8: walks, comprehensions, and the theorem of expressions. -/
namespace Sg
open PySem L2
section
variable {g : Gx} {ct : CT} {W : WX} {X : Cx} {T : Tab}

/-! ### walks -/
theorem walk_still {B : Bk} {F : Hp} {m : List Addr} {J : It} {ds : List D} {Y : Nat → Hp → V → Hp → Prop} (w : Walk J ds.length (fun H => Same F H) Y) (hy : ∀ i H x H', i < ds.length → Same F H → Y i H x H' → H' = H ∧ ∃ d, ds[i]? = some d ∧ Rep B F m d x) : WalkD B F m J ds :=
  w.mono (fun _ h => h) fun i H x H' hi hG y => by
    obtain ⟨e, d, hd, r⟩ := hy i H x H' hi hG y
    subst e
    exact ⟨d, hd, fun R F1 m1 μ gr so => ⟨F1, Grow.refl _ _, so, Rep.mono gr _ _ r⟩⟩
theorem walkD_list {K : PySem.W.Frag} {B : Bk} {F : Hp} {m : List Addr} {a : Addr} {vs : List V} {ds : List D} (hs : SqL K F a vs) (r : RepL B F m ds vs) : WalkD B F m (Itl K a) ds := by
  have w : Walk (Itl K a) ds.length (fun H => Same F H) (YAt vs) := by
    rw [r.length]
    exact walk_list.mono (fun H h => h.seq hs) fun _ _ _ _ _ _ y => y
  refine walk_still w fun i H x H' hi hG y => ⟨y.1, ?_⟩
  exact r.get' i x y.2
theorem walkD_tup {K : PySem.W.Frag} {B : Bk} {F : Hp} {m : List Addr} {a : Addr} {vs : List V} {ds : List D} (hs : SqT K F a vs) (r : RepL B F m ds vs) : WalkD B F m (Itt K a) ds := by
  have w : Walk (Itt K a) ds.length (fun H => Same F H) (YAt vs) := by
    rw [r.length]
    exact walk_tup.mono (fun H h => seqT_mono h hs) fun _ _ _ _ _ _ y => y
  refine walk_still w fun i H x H' hi hG y => ⟨y.1, ?_⟩
  exact r.get' i x y.2
theorem walkD_str {B : Bk} {F : Hp} {m : List Addr} {z : Str} : WalkD B F m (Its z) (z.cps.toList.map fun c => D.str ⟨#[c]⟩) := by
  have w : Walk (Its z) (z.cps.toList.map fun c => D.str ⟨#[c]⟩).length (fun H => Same F H) (fun i H v H' => H' = H ∧ ∃ c, z.cps[i]? = some c ∧ v = .str ⟨#[c]⟩) := by
    rw [List.length_map, Array.length_toList]
    exact walk_str.mono (fun _ _ => trivial) fun _ _ _ _ _ _ y => y
  refine walk_still w fun i H x H' hi hG y => ⟨y.1, ?_⟩
  obtain ⟨_, c, e, rfl⟩ := y
  refine ⟨.str ⟨#[c]⟩, ?_, rfl⟩
  rw [List.getElem?_map, Array.getElem?_toList, e]
  rfl
theorem rngD_len (lo : Int) : ∀ n : Nat, (rngD lo n).length = n
  | 0 => rfl
  | n + 1 => by
    show (rngD (lo + 1) n).length + 1 = n + 1
    rw [rngD_len (lo + 1) n]
theorem rngD_get : ∀ (n : Nat) (lo : Int) (i : Nat), i < n → (rngD lo n)[i]? = some (.int (lo + i))
  | 0, _, _, h => absurd h (Nat.not_lt_zero _)
  | n + 1, lo, 0, _ => by
    show some (D.int lo) = some (D.int (lo + 0))
    rw [Int.add_zero]
  | n + 1, lo, i + 1, h => by
    show (rngD (lo + 1) n)[i]? = _
    rw [rngD_get n (lo + 1) i (by omega)]
    have e : lo + 1 + (i : Int) = lo + ((i + 1 : Nat) : Int) := by omega
    rw [e]
theorem walkD_rng {B : Bk} {F : Hp} {m : List Addr} {lo : Int} {n : Nat} : WalkD B F m (Itr lo n) (rngD lo n) := by
  have w : Walk (Itr lo n) (rngD lo n).length (fun H => Same F H) (YFn fun i => .int (lo + i)) := by
    rw [rngD_len]
    exact walk_range.mono (fun _ _ => trivial) fun _ _ _ _ _ _ y => y
  refine walk_still w fun i H x H' hi hG y => ⟨y.1, ?_⟩
  rw [rngD_len] at hi
  exact ⟨_, rngD_get n lo i hi, y.2⟩
/-- whatever is walked by its value: a list, a tuple, a text -/
theorem ji_val (cx : CxOk g ct W X) {tg e : Expr} {ie : E} (he : JE g W X e (evalE T ie)) : JI g W X tg e (evalI T (.val ie)) := by
  intro ρ μ r h R F m σ H G so ro po
  simp only [evalI] at h
  -- the value decides which walk it is
  cases ev : evalE T ie ρ μ with
  | none =>
    unfold bd at h
    rw [ev] at h
    cases h
  | some ra =>
    obtain ⟨r1, μ1⟩ := ra
    cases r1 with
    | error x =>
      have e2 : r = (.error x, μ1) := by
        unfold bd at h
        rw [ev] at h
        exact (Option.some.inj h).symm
      subst e2
      refine SI.of (pi_list (pe_se X e)) ?_
      exact he ρ μ _ ev R F m σ H _ so ro (show Post g.B R W σ F m (Except.error x, μ1) _ from po)
    | ok d =>
      have h1 : up (itemsD d) μ1 = some r := by
        unfold bd at h
        rw [ev] at h
        exact h
      obtain ⟨ds, e1, rfl⟩ := up_some h1
      cases d with
      | lst xs =>
        have e1 := Option.some.inj e1
        subst e1
        refine SI.of (pi_list (pe_se X e)) ?_
        refine he ρ μ _ ev R F m σ H _ so ro fun F1 m1 H1 gr1 so1 v rv => ?_
        obtain ⟨a, vs, rfl, hs, rr⟩ := rv
        exact ⟨a, rfl, ⟨vs, SqL.of (so1.sub _ _ hs)⟩, po F1 m1 H1 gr1 so1 _ (walkD_list (SqL.of hs) rr)⟩
      | tup xs =>
        have e1 := Option.some.inj e1
        subst e1
        refine SI.of (pi_tup (pe_se X e)) ?_
        refine he ρ μ _ ev R F m σ H _ so ro fun F1 m1 H1 gr1 so1 v rv => ?_
        obtain ⟨a, vs, rfl, hs, rr⟩ := rv
        have hs' : SqT X.K F1 a vs := by
          rw [cx.K]
          exact hs
        exact ⟨a, rfl, ⟨vs, seqT_mono so1.sub hs'⟩, po F1 m1 H1 gr1 so1 _ (walkD_tup hs' rr)⟩
      | str z =>
        have e1 := Option.some.inj e1
        subst e1
        refine SI.of (pi_str (pe_se X e)) ?_
        refine he ρ μ _ ev R F m σ H _ so ro fun F1 m1 H1 gr1 so1 v rv => ?_
        have rv : v = .str z := rv
        subst rv
        exact ⟨z, rfl, po F1 m1 H1 gr1 so1 _ walkD_str⟩
      | _ => cases e1
theorem ji_rng1 (cx : CxOk g ct W X) (fo : FnsOk g T ct.nm) {n : Str} {tg y : Expr} {a : E} {p pos : Pos} (hg : chkG ct n = true) (hn : n = "range") (hs : notStar y = true) (ha : JE g W X y (evalE T a)) : JI g W X tg (.Call (.Name n p) [y] [] pos) (evalI T (.rng1 a)) := by
  intro ρ μ r h R F m σ H G so ro po
  obtain ⟨g1, g2⟩ := chkG_of cx hg
  subst hn
  have hmg : X.mg "range" = none := by
    rw [cx.mg]
    exact fo.blt _ (by decide +kernel)
  simp only [evalI] at h
  refine SI.of (pi_range1 g1 hmg (pa_cons (pe_se X y) pa_nil (star_cons hs _ _)) (star_cons hs _ _)) ?_
  obtain ⟨ra, ea, pa⟩ := bd_post h po (Ka := QE g fun v H1 => ∃ j : Int, [v] = [V.int j] ∧ -(2 ^ 62) ≤ j ∧ j < 2 ^ 62 ∧ G (Itr 0 j.toNat) H1) fun d μ1 e1 h1 F1 m1 H1 gr1 so1 v rv => by
    split at h1
    · rename_i j
      have rv : v = .int j := rv
      subst rv
      split at h1
      · rename_i hr
        obtain ⟨b1, b2⟩ := of_decide_eq_true hr
        have e := rt_some h1
        subst e
        exact ⟨j, rfl, b1, b2, po F1 m1 H1 gr1 so1 _ walkD_rng⟩
      · cases h1
    · cases h1
  exact ha ρ μ ra ea R F m σ H _ so ro pa
theorem ji_rng2 (cx : CxOk g ct W X) (fo : FnsOk g T ct.nm) {n : Str} {tg y z : Expr} {a b : E} {p pos : Pos} (hg : chkG ct n = true) (hn : n = "range") (hs : notStar y = true) (hz : notStar z = true) (ha : JE g W X y (evalE T a)) (hb : JE g W X z (evalE T b)) :
    JI g W X tg (.Call (.Name n p) [y, z] [] pos) (evalI T (.rng2 a b)) := by
  intro ρ μ r h R F m σ H G so ro po
  obtain ⟨g1, g2⟩ := chkG_of cx hg
  subst hn
  have hmg : X.mg "range" = none := by
    rw [cx.mg]
    exact fo.blt _ (by decide +kernel)
  simp only [evalI] at h
  refine SI.of (pi_range2 g1 hmg (pa_cons (pe_se X y) (pa_cons (pe_se X z) pa_nil (star_cons hz _ _)) (star_cons hs _ _)) (by rw [star_cons hs, star_cons hz]; rfl) (star_cons hz _ _)) ?_
  obtain ⟨ra, ea, pa⟩ := bd_post h po (Ka := QE g fun v H1 => SE X z σ H1 fun u H2 => ∃ i j : Int, [v, u] = [V.int i, V.int j] ∧ (-(2 ^ 62) ≤ i ∧ i < 2 ^ 62 ∧ -(2 ^ 62) ≤ j ∧ j < 2 ^ 62) ∧ G (Itr i (j - i).toNat) H2) fun d μ1 e1 h1 F1 m1 H1 gr1 so1 v rv => by
    obtain ⟨rb, eb, pb⟩ := bd_post h1 (po.grow gr1) (Ka := QE g fun u H2 => ∃ i j : Int, [v, u] = [V.int i, V.int j] ∧ (-(2 ^ 62) ≤ i ∧ i < 2 ^ 62 ∧ -(2 ^ 62) ≤ j ∧ j < 2 ^ 62) ∧ G (Itr i (j - i).toNat) H2) fun d2 μ2 e2 h2 F2 m2 H2 gr2 so2 u ru => by
      split at h2
      · rename_i i j
        have rv : v = .int i := rv
        have ru : u = .int j := ru
        subst rv ru
        split at h2
        · rename_i hr
          rw [Bool.and_eq_true] at hr
          obtain ⟨b1, b2⟩ := of_decide_eq_true hr.1
          obtain ⟨b3, b4⟩ := of_decide_eq_true hr.2
          have e := rt_some h2
          subst e
          exact ⟨i, j, rfl, ⟨b1, b2, b3, b4⟩, po F2 m2 H2 (gr1.trans gr2) so2 _ walkD_rng⟩
        · cases h2
      · cases h2
    exact hb ρ μ1 rb eb R F1 m1 σ H1 _ so1 (ro.mono gr1) pb
  exact ha ρ μ ra ea R F m σ H _ so ro pa

/-- pairs of two walks -/
theorem walkD_pair {B : Bk} {F : Hp} {m : List Addr} {J : It} {xs ys : List D} {vs us : List V} (r1 : RepL B F m xs vs) (r2 : RepL B F m ys us)
    (w : Walk J (zipD xs ys).length (fun H => Same F H) (YPair (fun i => vs[i]?) (fun i => us[i]?))) : WalkD B F m J (zipD xs ys) :=
  w.mono (fun _ h => h) fun i H x H' hi hG ⟨t, x1, x2, e1, e2, e3, h1, h2⟩ => by
    subst e1 e3
    obtain ⟨d1, hd1, q1⟩ := r1.get' i x1 h1
    obtain ⟨d2, hd2, q2⟩ := r2.get' i x2 h2
    refine ⟨.tup [d1, d2], ?_, fun R F1 m1 μ gr so => ?_⟩
    · unfold zipD
      rw [List.getElem?_zipWith, hd1, hd2]
    · obtain ⟨g2, so2⟩ := so.new (o := .tup [x1, x2]) e2
      exact ⟨_, g2, so2, t, [x1, x2], rfl, .inl (.inl upd_same), x1, [x2], rfl, Rep.mono (gr.trans g2) _ _ q1, x2, [], rfl, Rep.mono (gr.trans g2) _ _ q2, rfl⟩
theorem zipD_len (xs ys : List D) : (zipD xs ys).length = min xs.length ys.length := by
  unfold zipD
  rw [List.length_zipWith]
theorem tup_of {t : Expr} (h : isTup t = true) : ∃ es k p, t = .Tuple es k p := by
  cases t <;> first | exact ⟨_, _, _, rfl⟩ | cases h
theorem SqK.mono {t : Bool} {K : PySem.W.Frag} {F H : Hp} {a : Addr} {xs : List V} (h : SqK t K F a xs) (e : Same F H) : SqK t K H a xs := by
  cases t
  · exact e.seq h
  · exact seqT_mono e h
/-- a sequence of data, as it lies -/
theorem seq_rep {B : Bk} {F : Hp} {m : List Addr} {d : D} {v : V} {xs : List D} (e : seqD d = some xs) (h : Rep B F m d v) : ∃ t a vs, v = .ref a ∧ SqK t B.K F a vs ∧ RepL B F m xs vs := by
  cases d with
  | lst ys =>
    cases e
    obtain ⟨a, vs, rfl, hF, rr⟩ := h
    exact ⟨false, a, vs, rfl, SqL.of hF, rr⟩
  | tup ys =>
    cases e
    obtain ⟨a, vs, rfl, hF, rr⟩ := h
    exact ⟨true, a, vs, rfl, hF, rr⟩
  | _ => cases e
theorem ji_zip (cx : CxOk g ct W X) (fo : FnsOk g T ct.nm) {n : Str} {tg y z : Expr} {a b : E} {p pos : Pos} (htg : isTup tg = true) (hg : chkG ct n = true) (hn : n = "zip") (hs : notStar y = true) (hz : notStar z = true) (ha : JE g W X y (evalE T a)) (hb : JE g W X z (evalE T b)) :
    JI g W X tg (.Call (.Name n p) [y, z] [] pos) (evalI T (.zip a b)) := by
  intro ρ μ r h R F m σ H G so ro po
  obtain ⟨g1, g2⟩ := chkG_of cx hg
  subst hn
  have hmg : X.mg "zip" = none := by
    rw [cx.mg]
    exact fo.blt _ (by decide +kernel)
  obtain ⟨es, kk, tp, rfl⟩ := tup_of htg
  simp only [evalI] at h
  refine SI.of (pi_zipB g1 hmg (pa_cons (pe_se X y) (pa_cons (pe_se X z) pa_nil (star_cons hz _ _)) (star_cons hs _ _)) (star_cons hs _ _) (by rw [star_cons hz]; rfl)) ?_
  obtain ⟨ra, ea, pa⟩ := bd_post h po (Ka := QE g fun v H1 => SE X z σ H1 fun u H2 => ∃ t t' a b xs ys, [v, u] = [V.ref a, V.ref b] ∧ SqK t X.K H2 a xs ∧ SqK t' X.K H2 b ys ∧ G (ItzB t t' X.K a b) H2) fun d μ1 e1 h1 F1 m1 H1 gr1 so1 v rv => by
    obtain ⟨rb, eb, pb⟩ := bd_post h1 (po.grow gr1) (Ka := QE g fun u H2 => ∃ t t' a b xs ys, [v, u] = [V.ref a, V.ref b] ∧ SqK t X.K H2 a xs ∧ SqK t' X.K H2 b ys ∧ G (ItzB t t' X.K a b) H2) fun d2 μ2 e2 h2 F2 m2 H2 gr2 so2 u ru => by
      obtain ⟨zs, ez, rfl⟩ := up_some h2
      have rv2 := Rep.mono gr2 _ _ rv
      unfold zipK at ez
      split at ez
      · rename_i xs ys ex ey
        have ez := Option.some.inj ez
        subst ez
        obtain ⟨t, a, vs, rfl, hq, rr⟩ := seq_rep ex rv2
        obtain ⟨t', b, us, rfl, hq', rr'⟩ := seq_rep ey ru
        rw [← cx.K] at hq hq'
        refine ⟨t, t', a, b, vs, us, rfl, hq.mono so2.sub, hq'.mono so2.sub, po F2 m2 H2 (gr1.trans gr2) so2 _ (walkD_pair rr rr' ?_)⟩
        have hlen : (zipD xs ys).length = min vs.length us.length := by rw [zipD_len, rr.length, rr'.length]
        refine ⟨fun i H hi hG => ?_, fun H hG => ⟨vs, us, hq.mono hG, hq'.mono hG, by omega⟩, fun i H v H' _ hG ⟨t, x, z, h1, h2, h3, h4, h5⟩ => ⟨t, x, z, h1, h2, h3, h4 vs (hq.mono hG), h5 us (hq'.mono hG)⟩⟩
        have l1 : i < vs.length := by omega
        have l2 : i < us.length := by omega
        exact ⟨vs, us, vs[i], us[i], hq.mono hG, hq'.mono hG, List.getElem?_eq_getElem l1, List.getElem?_eq_getElem l2⟩
      · cases ez
    exact hb ρ μ1 rb eb R F1 m1 σ H1 _ so1 (ro.mono gr1) pb
  exact ha ρ μ ra ea R F m σ H _ so ro pa
theorem enumD_get : ∀ (xs : List D) (n i : Nat) (d : D), xs[i]? = some d → (enumD n xs)[i]? = some (.tup [.int ((n + i : Nat) : Int), d])
  | [], _, _, _, h => by simp at h
  | x :: r, n, 0, d, h => by
    simp at h
    subst h
    rfl
  | x :: r, n, i + 1, d, h => by
    show (enumD (n + 1) r)[i]? = _
    rw [enumD_get r (n + 1) i d (by simpa using h)]
    have e : n + 1 + i = n + (i + 1) := by omega
    rw [e]
theorem enumD_len : ∀ (xs : List D) (n : Nat), (enumD n xs).length = xs.length
  | [], _ => rfl
  | x :: r, n => by
    show (enumD (n + 1) r).length + 1 = r.length + 1
    rw [enumD_len r (n + 1)]
theorem ji_enum (cx : CxOk g ct W X) (fo : FnsOk g T ct.nm) {n : Str} {tg y : Expr} {a : E} {p pos : Pos} (htg : isTup tg = true) (hg : chkG ct n = true) (hn : n = "enumerate") (hs : notStar y = true) (ha : JE g W X y (evalE T a)) :
    JI g W X tg (.Call (.Name n p) [y] [] pos) (evalI T (.enum a)) := by
  intro ρ μ r h R F m σ H G so ro po
  obtain ⟨g1, g2⟩ := chkG_of cx hg
  subst hn
  have hmg : X.mg "enumerate" = none := by
    rw [cx.mg]
    exact fo.blt _ (by decide +kernel)
  obtain ⟨es, kk, tp, rfl⟩ := tup_of htg
  simp only [evalI] at h
  refine SI.of (pi_enum g1 hmg (pa_cons (pe_se X y) pa_nil (star_cons hs _ _)) (star_cons hs _ _)) ?_
  obtain ⟨ra, ea, pa⟩ := bd_post h po (Ka := QE g fun v H1 => ∃ a xs, [v] = [V.ref a] ∧ SqL X.K H1 a xs ∧ G (Ite X.K a) H1) fun d μ1 e1 h1 F1 m1 H1 gr1 so1 v rv => by
    split at h1
    · rename_i xs
      have e := rt_some h1
      subst e
      obtain ⟨b, vs, rfl, hF, rr⟩ := rv
      refine ⟨b, vs, rfl, SqL.of (so1.sub _ _ hF), po F1 m1 H1 gr1 so1 _ ?_⟩
      have w : Walk (Ite X.K b) (enumD 0 xs).length (fun H => Same F1 H) (YPair (fun i => some (.int (i : Nat))) (fun i => vs[i]?)) := by
        rw [enumD_len, rr.length]
        exact walk_enum.mono (fun H h => SqL.of (h _ _ hF)) fun _ _ _ _ _ _ y => y
      refine w.mono (fun _ h => h) fun i H x H' hi hG ⟨t, x1, x2, e1, e2, e3, q1, q2⟩ => ?_
      subst e1 e3
      have q1 := Option.some.inj q1
      subst q1
      obtain ⟨d2, hd2, r2⟩ := rr.get' i x2 q2
      refine ⟨.tup [.int (i : Nat), d2], ?_, fun R F2 m2 μ gr so => ?_⟩
      · rw [enumD_get xs 0 i d2 hd2, Nat.zero_add]
      · obtain ⟨g3, so3⟩ := so.new (o := .tup [.int (i : Nat), x2]) e2
        exact ⟨_, g3, so3, t, [.int (i : Nat), x2], rfl, .inl (.inl upd_same), _, [x2], rfl, rfl, x2, [], rfl, Rep.mono (gr.trans g3) _ _ r2, rfl⟩
    · cases h1
  exact ha ρ μ ra ea R F m σ H _ so ro pa

/-! ### comprehensions -/
/-- the blocks of a comprehension -/
def Blk (X : Cx) (scope : Scope) (X' : Cx) : Prop := ∃ (s : Shared) (H : Hp) (C : Addr) (cl : List (Str × Addr)) (fp : List Addr), X' = X.blk s H scope (compEnvC scope cl C X.env) fp
theorem Blk.ok {scope : Scope} {X' : Cx} (cx : CxOk g ct W X) (h : Blk X scope X') : CxOk g (ct.blk scope) (fun _ _ _ _ => False) X' := by
  obtain ⟨s, H, C, cl, fp, rfl⟩ := h
  refine ⟨cx.prog, cx.w, cx.K, cx.mg, cx.base, cx.N, ?_, cx.nd, cx.calm, cx.room, cx.gu, fun x h => h, PassesOwn.never, takes0, (fun z => by cases z), (fun z => by cases z)⟩
  show relS scope X.env.scope = relS scope ct.sc
  rw [cx.sc]
theorem bd_ok {α β : Type} {x : M α} {k : α → M β} {μ μ' : Store} {z : β} (h : bd x k μ = some (.ok z, μ')) : ∃ a μ1, x μ = some (.ok a, μ1) ∧ k a μ1 = some (.ok z, μ') := by
  unfold bd at h
  cases e : x μ with
  | none =>
    rw [e] at h
    cases h
  | some r =>
    obtain ⟨r1, μ1⟩ := r
    rw [e] at h
    cases r1 with
    | error _ => cases h
    | ok a => exact ⟨a, μ1, rfl, h⟩
theorem lcM_cons {b : D → Option Rho} {f : Rho → M Bool} {e : Rho → M (List D)} {x : D} {r : List D} {μ : Store} {ys : List D} {μ' : Store} (h : lcM b f e (x :: r) μ = some (.ok ys, μ')) :
    ∃ ρ k μ1, b x = some ρ ∧ f ρ μ = some (.ok k, μ1) ∧ (if k = true then ∃ y μ2 zs, e ρ μ1 = some (.ok y, μ2) ∧ lcM b f e r μ2 = some (.ok zs, μ') ∧ ys = y ++ zs else lcM b f e r μ1 = some (.ok ys, μ')) := by
  simp only [lcM] at h
  cases eb : b x with
  | none =>
    rw [eb] at h
    cases h
  | some ρ =>
    rw [eb] at h
    have h : bd (f ρ) (fun c => if c then bd (e ρ) fun y => bd (lcM b f e r) fun ys => rt (y ++ ys) else lcM b f e r) μ = some (.ok ys, μ') := h
    obtain ⟨k, μ1, h1, h⟩ := bd_ok h
    refine ⟨ρ, k, μ1, rfl, h1, ?_⟩
    cases k with
    | false => exact h
    | true =>
      have h : bd (e ρ) (fun y => bd (lcM b f e r) fun ys => rt (y ++ ys)) μ1 = some (.ok ys, μ') := h
      obtain ⟨y, μ2, h2, h⟩ := bd_ok h
      obtain ⟨zs, μ3, h3, h⟩ := bd_ok h
      have h := Option.some.inj h
      have q1 := Except.ok.inj (Prod.mk.inj h).1
      have q2 := (Prod.mk.inj h).2
      subst q1 q2
      exact ⟨y, μ2, zs, h2, h3, rfl⟩
theorem set_of {i : Expr} {env : Env} (h : notSet i = true) : ∀ x, foldedSetIterable i env x = pure x := by
  intro x
  cases i <;> first | rfl | cases h
theorem one1_ok {x : M D} {μ μ' : Store} {ys : List D} (h : one1 x μ = some (.ok ys, μ')) : ∃ z, ys = [z] ∧ x μ = some (.ok z, μ') := by
  obtain ⟨z, μ1, h1, h2⟩ := bd_ok h
  have h2 := Option.some.inj h2
  have q1 := Except.ok.inj (Prod.mk.inj h2).1
  have q2 := (Prod.mk.inj h2).2
  subst q1 q2
  exact ⟨z, rfl, h1⟩
/-- the readings of a comprehension's parts, in all its blocks -/
def gB (X : Cx) (scope : Scope) (t : Expr) : TG := fun v σ H Q => ∀ X', Blk X scope X' → SG X' t v σ H Q
def tB' (X : Cx) (scope : Scope) (cs : List Expr) : TT := fun σ H Q => ∀ X', Blk X scope X' → STs X' cs σ H Q
def eB (X : Cx) (scope : Scope) (y : Expr) : TE := fun σ H Q => ∀ X', Blk X scope X' → SE X' y σ H Q
theorem lc_read (cx : CxOk g ct W X) {y t i : Expr} {cs : List Expr} {scope : Scope} {vs : List Nat} {tg : Tg} {it : I} {ifs : List B} {elt : E} (hsl : ∀ j ∈ tg.slots, j ∈ vs) (hi : JI g W X t i (evalI T it)) (ht : chkTg (ct.blk scope) tg t = true) (hcs : ∀ X', Blk X scope X' → JTs g (fun _ _ _ _ => False) X' cs (evalTs T ifs)) (he : ∀ X', Blk X scope X' → JE g (fun _ _ _ _ => False) X' y (evalE T elt))
    {ρ : Rho} {μ : Store} {r : Except Exc D × Store} (h : evalE T (.lc vs tg it ifs elt) ρ μ = some r) {R F : Hp} {m : List Addr} {σ : St} {H : Hp} {Q : VK} (so : SOk g.B R F m μ H) (ro : ROk g.B F m ρ σ) (po : Post g.B R W σ F m r (QE g Q)) :
    tLc (SI X t i) (gB X scope t) (tB' X scope cs) (eB X scope y) vs σ H Q := by
  simp only [evalE] at h
  obtain ⟨ri, ei, pi⟩ := bd_post h po (Ka := fun F1 m1 H1 ds => ∀ J, WalkD g.B F1 m1 J ds → ∀ L0, H1 L0 = none → ∃ W : Nat → Nat → Hp → Prop, (∃ m, W 0 m (upd H1 L0 (.lst []))) ∧ ∀ i m H, W i m H →
      (J.stop i H ∧ Q (.ref L0) H) ∨ (J.go i H ∧ ∃ Nx : Hp → Prop, (∀ H', Nx H' → ∃ m', m' < m ∧ W (i + 1) m' H') ∧ ∀ x H', J.yld i H x H' → (∀ X', Blk X scope X' → SG X' t x (L2.wipe σ vs) H' fun σ2 H2 => L2.wipe σ2 vs = L2.wipe σ vs ∧ (∀ X', Blk X scope X' → STs X' cs σ2 H2 fun b H3 =>
        if b = true then (∀ X', Blk X scope X' → SE X' y σ2 H3 fun y H4 => ∃ acc, H4 L0 = some (.lst acc) ∧ acc.length < sizeLine ∧ Nx (upd H4 L0 (.lst (acc ++ [y])))) else Nx H3)))) fun ds μ1 e1 h1 F1 m1 H1 gr1 so1 J wk L0 hD => by
    have ro1 := ro.mono gr1
    have po1 := po.grow gr1
    -- what the turns make
    obtain ⟨ys, μ2, hM, hlen, er⟩ : ∃ ys μ2, lcM (fun d => bindT tg d (wipeR ρ vs)) (fun ρ' => evalTs T ifs ρ') (fun ρ' => one1 (evalE T elt ρ')) ds μ1 = some (.ok ys, μ2) ∧ ys.length ≤ sizeLine ∧ r = (.ok (.lst ys), μ2) := by
      unfold bd sure at h1
      cases e : lcM (fun d => bindT tg d (wipeR ρ vs)) (fun ρ' => evalTs T ifs ρ') (fun ρ' => one1 (evalE T elt ρ')) ds μ1 with
      | none =>
        rw [e] at h1
        cases h1
      | some rl =>
        obtain ⟨r1, μ2⟩ := rl
        rw [e] at h1
        cases r1 with
        | error _ => cases h1
        | ok ys =>
          have h1 : (if ys.length ≤ sizeLine then rt (D.lst ys) else up none) μ2 = some r := h1
          by_cases hl : ys.length ≤ sizeLine
          · rw [if_pos hl] at h1
            exact ⟨ys, μ2, rfl, hl, rt_some h1⟩
          · rw [if_neg hl] at h1
            cases h1
    subst er
    have RD : R L0 = none := by
      cases q : R L0 with
      | none => rfl
      | some o =>
        have := so1.fr L0 o q
        rw [hD] at this
        cases this
    refine lc_it wk (g := gB X scope t) (tt := tB' X scope cs) (te := eB X scope y) (vs := vs) (σ := σ) (H1 := H1) (D := L0) (Qd := fun H => Q (.ref L0) H) (fun n Hn => ∃ F2 m2 μn done rest acc, Grow F1 m1 F2 m2 ∧ SOk g.B (upd R L0 (.lst acc)) F2 m2 μn Hn ∧ RepL g.B F2 m2 done acc ∧ ys = done ++ rest ∧
      lcM (fun d => bindT tg d (wipeR ρ vs)) (fun ρ' => evalTs T ifs ρ') (fun ρ' => one1 (evalE T elt ρ')) (ds.drop n) μn = some (.ok rest, μ2)) ?_ ?_ ?_ ?_
    · exact ⟨F1, m1, μ1, [], ys, [], Grow.refl _ _, so1.hold hD, rfl, rfl, hM⟩
    · rintro n Hn _ ⟨F2, m2, μn, done, rest, acc, gr2, so2, _⟩
      exact gr2.sub.trans so2.sub
    · rintro n x Hn Hx hn ⟨F2, m2, μn, done, rest, acc, gr2, so2, rd, ey, hR⟩ ⟨d, hd, yl⟩
      obtain ⟨F3, gr3, so3, rx⟩ := yl _ F2 m2 μn gr2 so2
      have edrop : ds.drop n = d :: ds.drop (n + 1) := by
        obtain ⟨hl, e⟩ := List.getElem?_eq_some_iff.mp hd
        rw [← e]
        exact List.drop_eq_getElem_cons hl
      rw [edrop] at hR
      obtain ⟨ρ', k, μ3, b1, b2, b3⟩ := lcM_cons hR
      intro X' bx
      have cx' := Blk.ok cx bx
      have row : ROk g.B F3 m2 (wipeR ρ vs) (L2.wipe σ vs) := ((ro1.mono gr2).mono gr3).wipe vs
      refine tg_ok cx' tg t ht d (wipeR ρ vs) ρ' b1 _ F3 m2 μn _ Hx x _ so3 row rx fun σ2 ro2 wp => ⟨?_, fun X2 bx2 => ?_⟩
      · rw [wp vs hsl]
        apply List.ext_getElem?
        intro j
        rw [wipe_get, wipe_get]
        split
        · cases σ[j]? <;> rfl
        · rfl
      · refine hcs X2 bx2 ρ' μn (.ok k, μ3) b2 _ F3 m2 σ2 Hx _ so3 ro2 fun F4 m4 H4 gr4 so4 => ?_
        cases k with
        | false =>
          rw [if_neg Bool.false_ne_true] at b3
          refine iteF ?_
          exact ⟨F4, m4, μ3, done, rest, acc, (gr2.trans gr3).trans gr4, so4, RepL.mono (gr3.trans gr4) _ _ rd, ey, b3⟩
        | true =>
          rw [if_pos rfl] at b3
          refine iteT fun X3 bx3 => ?_
          obtain ⟨z1, μ4, zs, c1, c2, c3⟩ := b3
          obtain ⟨z, ez1, d1⟩ := one1_ok c1
          subst ez1
          refine he X3 bx3 ρ' μ3 (.ok z, μ4) d1 _ F4 m4 σ2 H4 _ so4 (ro2.mono gr4) fun F5 m5 H5 gr5 so5 v rv => ?_
          have rd' := RepL.mono ((gr3.trans gr4).trans gr5) _ _ rd
          refine ⟨acc, so5.fr L0 _ upd_same, ?_, F5, m5, μ4, done ++ [z], zs, acc ++ [v], ((gr2.trans gr3).trans gr4).trans gr5, so5.turn, rd'.append (RepL.one rv), ?_, c2⟩
          · rw [← rd'.length]
            rw [ey, c3, List.length_append, List.length_append] at hlen
            have : [z].length = 1 := rfl
            omega
          · rw [ey, c3, List.append_assoc]
    · rintro Hn ⟨F2, m2, μn, done, rest, acc, gr2, so2, rd, ey, hR⟩
      rw [List.drop_length] at hR
      have hR := Option.some.inj hR
      have q1 := Except.ok.inj (Prod.mk.inj hR).1
      have q2 := (Prod.mk.inj hR).2
      subst q1 q2
      rw [List.append_nil] at ey
      subst ey
      obtain ⟨gr3, so3⟩ := so2.give RD
      exact po1 _ m2 Hn (gr2.trans gr3) so3 _ ⟨L0, acc, rfl, upd_same, RepL.mono gr3 _ _ rd⟩
  exact hi ρ μ ri ei R F m σ H _ so ro pi
theorem lc_pe (cx : CxOk g ct W X) {y t i : Expr} {cs : List Expr} {scope : Scope} {vs : List Nat} (hbl : blkC ct.N ct.sc scope (vs.map fun v => (ct.N.getD v "", v)) = true) :
    BlkOk X.N X.env.scope scope (vs.map fun v => (ct.N.getD v "", v)) ∧ (vs.map fun v => (ct.N.getD v "", v)).map (·.2) = vs := by
  refine ⟨?_, ?_⟩
  · rw [cx.N, cx.sc]
    exact blkOk_by hbl
  · rw [List.map_map]
    exact List.map_id'' (fun _ => rfl) vs
theorem lc_pg {scope : Scope} {t : Expr} : ∀ (s : Shared) (H : Hp) (C : Addr) (cl : List (Str × Addr)) (fp : List Addr), PG (X.blk s H scope (compEnvC scope cl C X.env) fp) t (gB X scope t) :=
  fun s H C cl fp => ⟨fun pins s' σ H v u Q I r h => h _ ⟨s, _, C, cl, fp, rfl⟩ pins s' u I r⟩
theorem lc_pt {scope : Scope} {cs : List Expr} : ∀ (s : Shared) (H : Hp) (C : Addr) (cl : List (Str × Addr)) (fp : List Addr), PTs (X.blk s H scope (compEnvC scope cl C X.env) fp) cs (tB' X scope cs) :=
  fun s H C cl fp => ⟨fun pins s' σ H Q I h => h _ ⟨s, _, C, cl, fp, rfl⟩ pins s' I⟩
theorem lc_el {scope : Scope} {y : Expr} : ∀ (s : Shared) (H : Hp) (C : Addr) (cl : List (Str × Addr)) (fp : List Addr), PE (X.blk s H scope (compEnvC scope cl C X.env) fp) y (eB X scope y) :=
  fun s H C cl fp => ⟨fun pins s' σ H Q I h => h _ ⟨s, _, C, cl, fp, rfl⟩ pins s' I⟩
theorem je_lc (cx : CxOk g ct W X) {y t i : Expr} {cs : List Expr} {scope : Scope} {pos : Pos} {vs : List Nat} {tg : Tg} {it : I} {ifs : List B} {elt : E} (hns : notSet i = true) (hbl : blkC ct.N ct.sc scope (vs.map fun v => (ct.N.getD v "", v)) = true)
    (hsl : ∀ j ∈ tg.slots, j ∈ vs) (hi : JI g W X t i (evalI T it)) (ht : chkTg (ct.blk scope) tg t = true) (hcs : ∀ X', Blk X scope X' → JTs g (fun _ _ _ _ => False) X' cs (evalTs T ifs)) (he : ∀ X', Blk X scope X' → JE g (fun _ _ _ _ => False) X' y (evalE T elt)) :
    JE g W X (.ListComp y [⟨t, i, cs, 0⟩] scope pos) (evalE T (.lc vs tg it ifs elt)) := by
  intro ρ μ r h R F m σ H Q so ro po
  obtain ⟨bok, evs⟩ := lc_pe cx (y := y) (t := t) (i := i) (cs := cs) hbl
  refine SE.of (pe_lc cx.calm (by rw [cx.N]; exact cx.nd) (pi_si X t i) bok lc_pg lc_pt lc_el (set_of hns)) ?_
  rw [evs]
  exact lc_read cx hsl hi ht hcs he h so ro po
end
end Sg
/-! Sg8b: comprehensions with two fors. -/
namespace Sg
open PySem L2
section
variable {g : Gx} {ct : CT} {W : WX} {X : Cx} {T : Tab}
/-- turns by an invariant, whatever a turn is -/
theorem loop_it {J : It} {n : Nat} {G : Hp → Prop} {Y : Nat → Hp → V → Hp → Prop} (w : Walk J n G Y) (Pv : Nat → Hp → Prop) {H0 : Hp} {Qd : Hp → Prop} {Tn : (Hp → Prop) → V → Hp → Prop} (h0 : Pv 0 H0) (hG : ∀ i H, i ≤ n → Pv i H → G H)
    (hs : ∀ i x H H', i < n → Pv i H → Y i H x H' → Tn (Pv (i + 1)) x H') (hd : ∀ H, Pv n H → Qd H) :
    ∃ W : Nat → Nat → Hp → Prop, (∃ m, W 0 m H0) ∧ ∀ i m H, W i m H → (J.stop i H ∧ Qd H) ∨ (J.go i H ∧ ∃ Nx : Hp → Prop, (∀ H', Nx H' → ∃ m', m' < m ∧ W (i + 1) m' H') ∧ ∀ x H', J.yld i H x H' → Tn Nx x H') := by
  refine ⟨fun i m H => m + i = n ∧ Pv i H, ⟨n, Nat.add_zero n, h0⟩, fun i m H ⟨e, p⟩ => ?_⟩
  have hi : i ≤ n := by omega
  have hg := hG i H hi p
  rcases Nat.lt_or_ge i n with lt | ge
  · exact .inr ⟨w.goes i H lt hg, Pv (i + 1), fun H' p' => ⟨m - 1, by omega, by omega, p'⟩, fun x H' y => hs i x H H' lt p (w.yields i H x H' lt hg y)⟩
  · have e2 : i = n := by omega
    subst e2
    exact .inl ⟨w.stops H hg, hd H p⟩
def iB (X : Cx) (scope : Scope) (t i : Expr) : TI := fun σ H R => ∀ X', Blk X scope X' → SI X' t i σ H R
theorem lc_pi {scope : Scope} {t i : Expr} : ∀ (s : Shared) (H : Hp) (C : Addr) (cl : List (Str × Addr)) (fp : List Addr), PI (X.blk s H scope (compEnvC scope cl C X.env) fp) t i (iB X scope t i) :=
  fun s H C cl fp => ⟨fun pins s' σ H R I h => h _ ⟨s, _, C, cl, fp, rfl⟩ pins s' I⟩
theorem wipe_two (σ : St) (vs : List Nat) : L2.wipe (L2.wipe σ vs) vs = L2.wipe σ vs := by
  apply List.ext_getElem?
  intro j
  rw [wipe_get, wipe_get]
  split
  · cases σ[j]? <;> rfl
  · rfl
theorem drop_at {ds : List D} {n : Nat} {d : D} (h : ds[n]? = some d) : ds.drop n = d :: ds.drop (n + 1) := by
  obtain ⟨hl, e⟩ := List.getElem?_eq_some_iff.mp h
  rw [List.drop_eq_getElem_cons hl, e]
theorem lc2_read (cx : CxOk g ct W X) {y t i t1 i1 : Expr} {cs cs1 : List Expr} {scope : Scope} {vs vs1 : List Nat} {tg tg1 : Tg} {it it1 : I} {ifs ifs1 : List B} {elt : E} (hsl : ∀ j ∈ tg.slots, j ∈ vs) (hsl1 : ∀ j ∈ tg1.slots, j ∈ vs1)
    (hi : JI g W X t i (evalI T it)) (ht : chkTg (ct.blk scope) tg t = true) (hcs : ∀ X', Blk X scope X' → JTs g (fun _ _ _ _ => False) X' cs (evalTs T ifs))
    (hi1 : ∀ X', Blk X scope X' → JI g (fun _ _ _ _ => False) X' t1 i1 (evalI T it1)) (ht1 : chkTg (ct.blk scope) tg1 t1 = true) (hcs1 : ∀ X', Blk X scope X' → JTs g (fun _ _ _ _ => False) X' cs1 (evalTs T ifs1))
    (he : ∀ X', Blk X scope X' → JE g (fun _ _ _ _ => False) X' y (evalE T elt))
    {ρ : Rho} {μ : Store} {r : Except Exc D × Store} (h : evalE T (.lc2 vs vs1 tg it ifs tg1 it1 ifs1 elt) ρ μ = some r) {R F : Hp} {m : List Addr} {σ : St} {H : Hp} {Q : VK} (so : SOk g.B R F m μ H) (ro : ROk g.B F m ρ σ) (po : Post g.B R W σ F m r (QE g Q)) :
    tLc2 (SI X t i) (gB X scope t) (tB' X scope cs) (iB X scope t1 i1) (gB X scope t1) (tB' X scope cs1) (eB X scope y) vs vs1 σ H Q := by
  simp only [evalE] at h
  obtain ⟨ri, ei, pi⟩ := bd_post h po (Ka := fun F1 m1 H1 ds => ∀ J, WalkD g.B F1 m1 J ds → ∀ L0, H1 L0 = none → ∃ W : Nat → Nat → Hp → Prop, (∃ m, W 0 m (upd H1 L0 (.lst []))) ∧ ∀ i m H, W i m H →
      (J.stop i H ∧ Q (.ref L0) H) ∨ (J.go i H ∧ ∃ Nx : Hp → Prop, (∀ H', Nx H' → ∃ m', m' < m ∧ W (i + 1) m' H') ∧ ∀ x H', J.yld i H x H' → gB X scope t x (L2.wipe σ vs) H' fun σ2 H2 => L2.wipe σ2 vs = L2.wipe σ vs ∧ tB' X scope cs σ2 H2 fun b H3 =>
        if b = true then iB X scope t1 i1 σ2 H3 fun J1 H4 => ∃ W1 : Nat → Nat → Hp → Prop, (∃ m, W1 0 m H4) ∧ ∀ j k H, W1 j k H →
          (J1.stop j H ∧ Nx H) ∨ (J1.go j H ∧ ∃ Nx1 : Hp → Prop, (∀ H', Nx1 H' → ∃ k', k' < k ∧ W1 (j + 1) k' H') ∧ ∀ x H', J1.yld j H x H' → gB X scope t1 x (L2.wipe σ2 vs1) H' fun σ3 H5 => L2.wipe σ3 vs1 = L2.wipe σ2 vs1 ∧ tB' X scope cs1 σ3 H5 fun b H6 =>
            if b = true then eB X scope y σ3 H6 fun y H7 => ∃ acc, H7 L0 = some (.lst acc) ∧ acc.length < sizeLine ∧ Nx1 (upd H7 L0 (.lst (acc ++ [y]))) else Nx1 H6)
        else Nx H3)) fun ds μ1 e1 h1 F1 m1 H1 gr1 so1 J wk L0 hD => by
    have ro1 := ro.mono gr1
    have po1 := po.grow gr1
    obtain ⟨ys, μ2, hM, hlen, er⟩ : ∃ ys μ2, lcM (fun d => bindT tg d (wipeR ρ vs)) (fun ρ' => evalTs T ifs ρ') (fun ρ' => bd (evalI T it1 ρ') fun ds1 => lcM (fun d => bindT tg1 d (wipeR ρ' vs1)) (fun ρ2 => evalTs T ifs1 ρ2) (fun ρ2 => one1 (evalE T elt ρ2)) ds1) ds μ1 = some (.ok ys, μ2) ∧ ys.length ≤ sizeLine ∧ r = (.ok (.lst ys), μ2) := by
      generalize hlc : lcM (fun d => bindT tg d (wipeR ρ vs)) (fun ρ' => evalTs T ifs ρ') (fun ρ' => bd (evalI T it1 ρ') fun ds1 => lcM (fun d => bindT tg1 d (wipeR ρ' vs1)) (fun ρ2 => evalTs T ifs1 ρ2) (fun ρ2 => one1 (evalE T elt ρ2)) ds1) ds = z at h1
      unfold bd sure at h1
      cases e : z μ1 with
      | none =>
        rw [e] at h1
        cases h1
      | some rl =>
        obtain ⟨r1, μ2⟩ := rl
        rw [e] at h1
        cases r1 with
        | error _ => cases h1
        | ok ys =>
          have h1 : (if ys.length ≤ sizeLine then rt (D.lst ys) else up none) μ2 = some r := h1
          by_cases hl : ys.length ≤ sizeLine
          · rw [if_pos hl] at h1
            exact ⟨ys, μ2, rfl, hl, rt_some h1⟩
          · rw [if_neg hl] at h1
            cases h1
    subst er
    have RD : R L0 = none := by
      cases q : R L0 with
      | none => rfl
      | some o =>
        have := so1.fr L0 o q
        rw [hD] at this
        cases this
    refine loop_it wk (fun n Hn => ∃ F2 m2 μn done rest acc, Grow F1 m1 F2 m2 ∧ SOk g.B (upd R L0 (.lst acc)) F2 m2 μn Hn ∧ RepL g.B F2 m2 done acc ∧ ys = done ++ rest ∧
      lcM (fun d => bindT tg d (wipeR ρ vs)) (fun ρ' => evalTs T ifs ρ') (fun ρ' => bd (evalI T it1 ρ') fun ds1 => lcM (fun d => bindT tg1 d (wipeR ρ' vs1)) (fun ρ2 => evalTs T ifs1 ρ2) (fun ρ2 => one1 (evalE T elt ρ2)) ds1) (ds.drop n) μn = some (.ok rest, μ2)) ?_ ?_ ?_ ?_
    · exact ⟨F1, m1, μ1, [], ys, [], Grow.refl _ _, so1.hold hD, rfl, rfl, hM⟩
    · rintro n Hn _ ⟨F2, m2, μn, done, rest, acc, gr2, so2, _⟩
      exact gr2.sub.trans so2.sub
    · rintro n x Hn Hx hn ⟨F2, m2, μn, done, rest, acc, gr2, so2, rd, ey, hR⟩ ⟨d, hd, yl⟩
      obtain ⟨F3, gr3, so3, rx⟩ := yl _ F2 m2 μn gr2 so2
      rw [drop_at hd] at hR
      obtain ⟨ρ', k, μ3, b1, b2, b3⟩ := lcM_cons hR
      intro X' bx
      have cx' := Blk.ok cx bx
      have row : ROk g.B F3 m2 (wipeR ρ vs) (L2.wipe σ vs) := ((ro1.mono gr2).mono gr3).wipe vs
      refine tg_ok cx' tg t ht d (wipeR ρ vs) ρ' b1 _ F3 m2 μn _ Hx x _ so3 row rx fun σ2 ro2 wp => ⟨by rw [wp vs hsl, wipe_two], fun X2 bx2 => ?_⟩
      refine hcs X2 bx2 ρ' μn (.ok k, μ3) b2 _ F3 m2 σ2 Hx _ so3 ro2 fun F4 m4 H4 gr4 so4 => ?_
      have rd4 := RepL.mono (gr3.trans gr4) _ _ rd
      cases k with
      | false =>
        rw [if_neg Bool.false_ne_true] at b3
        refine iteF ?_
        exact ⟨F4, m4, μ3, done, rest, acc, (gr2.trans gr3).trans gr4, so4, rd4, ey, b3⟩
      | true =>
        rw [if_pos rfl] at b3
        obtain ⟨y1, μ4, zs, c1, c2, c3⟩ := b3
        obtain ⟨ds1, μ5, c4, c5⟩ := bd_ok c1
        refine iteT fun X3 bx3 => ?_
        refine hi1 X3 bx3 ρ' μ3 (.ok ds1, μ5) c4 _ F4 m4 σ2 H4 _ so4 (ro2.mono gr4) fun F5 m5 H5 gr5 so5 J1 wk1 => ?_
        have ro5 := (ro2.mono gr4).mono gr5
        refine loop_it wk1 (fun j Hj => ∃ F6 m6 μj done1 rest1 acc1, Grow F5 m5 F6 m6 ∧ SOk g.B (upd R L0 (.lst acc1)) F6 m6 μj Hj ∧ RepL g.B F6 m6 (done ++ done1) acc1 ∧ y1 = done1 ++ rest1 ∧
          lcM (fun d => bindT tg1 d (wipeR ρ' vs1)) (fun ρ2 => evalTs T ifs1 ρ2) (fun ρ2 => one1 (evalE T elt ρ2)) (ds1.drop j) μj = some (.ok rest1, μ4)) ?_ ?_ ?_ ?_
        · exact ⟨F5, m5, μ5, [], y1, acc, Grow.refl _ _, so5, by rw [List.append_nil]; exact RepL.mono gr5 _ _ rd4, rfl, c5⟩
        · rintro j Hj _ ⟨F6, m6, μj, done1, rest1, acc1, gr6, so6, _⟩
          exact gr6.sub.trans so6.sub
        · rintro j x2 Hj Hx2 hj ⟨F6, m6, μj, done1, rest1, acc1, gr6, so6, rd6, ey1, hR1⟩ ⟨d2, hd2, yl2⟩
          obtain ⟨F7, gr7, so7, rx2⟩ := yl2 _ F6 m6 μj gr6 so6
          rw [drop_at hd2] at hR1
          obtain ⟨ρ2, k2, μ6, f1, f2, f3⟩ := lcM_cons hR1
          intro X4 bx4
          have cx4 := Blk.ok cx bx4
          have row2 : ROk g.B F7 m6 (wipeR ρ' vs1) (L2.wipe σ2 vs1) := ((ro5.mono gr6).mono gr7).wipe vs1
          refine tg_ok cx4 tg1 t1 ht1 d2 (wipeR ρ' vs1) ρ2 f1 _ F7 m6 μj _ Hx2 x2 _ so7 row2 rx2 fun σ3 ro3 wp3 => ⟨by rw [wp3 vs1 hsl1, wipe_two], fun X5 bx5 => ?_⟩
          refine hcs1 X5 bx5 ρ2 μj (.ok k2, μ6) f2 _ F7 m6 σ3 Hx2 _ so7 ro3 fun F8 m8 H8 gr8 so8 => ?_
          have rd8 := RepL.mono (gr7.trans gr8) _ _ rd6
          cases k2 with
          | false =>
            rw [if_neg Bool.false_ne_true] at f3
            refine iteF ?_
            exact ⟨F8, m8, μ6, done1, rest1, acc1, (gr6.trans gr7).trans gr8, so8, rd8, ey1, f3⟩
          | true =>
            rw [if_pos rfl] at f3
            obtain ⟨z1, μ7, zs1, p1, p2, p3⟩ := f3
            obtain ⟨z, ez1, q1⟩ := one1_ok p1
            subst ez1
            refine iteT fun X6 bx6 => ?_
            refine he X6 bx6 ρ2 μ6 (.ok z, μ7) q1 _ F8 m8 σ3 H8 _ so8 (ro3.mono gr8) fun F9 m9 H9 gr9 so9 v rv => ?_
            have rd9 := RepL.mono gr9 _ _ rd8
            refine ⟨acc1, so9.fr L0 _ upd_same, ?_, F9, m9, μ7, done1 ++ [z], zs1, acc1 ++ [v], ((gr6.trans gr7).trans gr8).trans gr9, so9.turn, ?_, ?_, p2⟩
            · rw [← rd9.length]
              rw [ey, c3, ey1, p3] at hlen
              simp only [List.length_append, List.length_cons, List.length_nil] at hlen ⊢
              omega
            · rw [← List.append_assoc]
              exact rd9.append (RepL.one rv)
            · rw [ey1, p3, List.append_assoc]
        · rintro Hj ⟨F6, m6, μj, done1, rest1, acc1, gr6, so6, rd6, ey1, hR1⟩
          rw [List.drop_length] at hR1
          have hR1 := Option.some.inj hR1
          have q1 := Except.ok.inj (Prod.mk.inj hR1).1
          have q2 := (Prod.mk.inj hR1).2
          subst q1 q2
          rw [List.append_nil] at ey1
          subst ey1
          exact ⟨F6, m6, μj, done ++ y1, zs, acc1, (((gr2.trans gr3).trans gr4).trans gr5).trans gr6, so6, rd6, by rw [ey, c3, List.append_assoc], c2⟩
    · rintro Hn ⟨F2, m2, μn, done, rest, acc, gr2, so2, rd, ey, hR⟩
      rw [List.drop_length] at hR
      have hR := Option.some.inj hR
      have q1 := Except.ok.inj (Prod.mk.inj hR).1
      have q2 := (Prod.mk.inj hR).2
      subst q1 q2
      rw [List.append_nil] at ey
      subst ey
      obtain ⟨gr3, so3⟩ := so2.give RD
      exact po1 _ m2 Hn (gr2.trans gr3) so3 _ ⟨L0, acc, rfl, upd_same, RepL.mono gr3 _ _ rd⟩
  exact hi ρ μ ri ei R F m σ H _ so ro pi
theorem set_of1 {i : Expr} (h : notSet i = true) : ∀ env x, foldedSetIterable i env x = pure x := by
  intro env x
  cases i <;> first | rfl | cases h
theorem je_lc2 (cx : CxOk g ct W X) {y t i t1 i1 : Expr} {cs cs1 : List Expr} {scope : Scope} {pos : Pos} {vs vs1 : List Nat} {tg tg1 : Tg} {it it1 : I} {ifs ifs1 : List B} {elt : E} (hns : notSet i = true) (hns1 : notSet i1 = true) (hbl : blkC ct.N ct.sc scope (vs.map fun v => (ct.N.getD v "", v)) = true)
    (hsl : ∀ j ∈ tg.slots, j ∈ vs) (hsl1 : ∀ j ∈ tg1.slots, j ∈ vs1) (hv : ∀ j ∈ vs1, j ∈ vs)
    (hi : JI g W X t i (evalI T it)) (ht : chkTg (ct.blk scope) tg t = true) (hcs : ∀ X', Blk X scope X' → JTs g (fun _ _ _ _ => False) X' cs (evalTs T ifs))
    (hi1 : ∀ X', Blk X scope X' → JI g (fun _ _ _ _ => False) X' t1 i1 (evalI T it1)) (ht1 : chkTg (ct.blk scope) tg1 t1 = true) (hcs1 : ∀ X', Blk X scope X' → JTs g (fun _ _ _ _ => False) X' cs1 (evalTs T ifs1))
    (he : ∀ X', Blk X scope X' → JE g (fun _ _ _ _ => False) X' y (evalE T elt)) :
    JE g W X (.ListComp y [⟨t, i, cs, 0⟩, ⟨t1, i1, cs1, 0⟩] scope pos) (evalE T (.lc2 vs vs1 tg it ifs tg1 it1 ifs1 elt)) := by
  intro ρ μ r h R F m σ H Q so ro po
  obtain ⟨bok, evs⟩ := lc_pe cx (y := y) (t := t) (i := i) (cs := cs) hbl
  refine SE.of (pe_lc2 (vs1 := vs1) cx.calm (by rw [cx.N]; exact cx.nd) (pi_si X t i) bok (by rw [evs]; exact hv) lc_pg lc_pt lc_pi lc_pg lc_pt lc_el (set_of hns) (set_of1 hns1)) ?_
  rw [evs]
  exact lc2_read cx hsl hsl1 hi ht hcs hi1 ht1 hcs1 he h so ro po
end
end Sg
/-! Sg8c: more expressions: pop, list(..) that is changed, count, e[::-1], f'..', str(..). -/
namespace Sg
open PySem L2
section
variable {g : Gx} {T : Tab} {ct : CT} {W : WX} {X : Cx}
theorem fewB {y : Expr} {pos : Pos} {env : Env} (h : notStar y = true) : (((backTo pos (starEach [y] env)).all fun x => !x.fst) && ((backToKw pos (keywordEach [] env)).all fun x => x.fst.isSome) && decide ([y].length + ([] : List Keyword).length + (if ([] : List Keyword).isEmpty = true then 0 else 1) < 30)) = true := by
  rw [star_cons h]
  rfl
theorem own_of {μ : Store} {d : D} (h : isOwn μ d = true) : ∃ k xs, d = .ref k ∧ μ[k]? = some (.own xs) := by
  cases d with
  | ref k =>
    unfold isOwn at h
    dsimp only at h
    split at h
    · rename_i xs e
      exact ⟨k, xs, rfl, e⟩
    · cases h
  | _ => cases h
theorem pop_of {μ μ' : Store} {o d : D} {i : Int} (h : popC μ o i = some (d, μ')) : ∃ k xs j, o = .ref k ∧ μ[k]? = some (.own xs) ∧ -(2 ^ 63) ≤ i ∧ i < 2 ^ 63 ∧ ixN xs.length i = some j ∧ xs[j]? = some d ∧ μ' = μ.set k (.own (xs.eraseIdx j)) := by
  unfold popC at h
  split at h
  · split at h
    · rename_i k _ xs hk
      split at h
      · rename_i hb
        cases e : ixN xs.length i with
        | none =>
          rw [e] at h
          cases h
        | some j =>
          rw [e] at h
          have h : (xs[j]?).map (fun d => (d, μ.set k (.own (xs.eraseIdx j)))) = some (d, μ') := h
          cases e2 : xs[j]? with
          | none =>
            rw [e2] at h
            cases h
          | some d2 =>
            rw [e2] at h
            have h := Option.some.inj h
            cases h
            exact ⟨k, xs, j, rfl, hk, hb.1, hb.2, e, e2, rfl⟩
      · cases h
    · cases h
  · cases h
theorem RepL.erase {B : Bk} {F : Hp} {m : List Addr} : ∀ {ds : List D} {vs : List V} (i : Nat), RepL B F m ds vs → RepL B F m (ds.eraseIdx i) (vs.eraseIdx i)
  | [], _, _, q => by
    have q : _ = [] := q
    subst q
    exact rfl
  | x :: r, _, 0, q => by
    obtain ⟨w, us, rfl, _, h2⟩ := q
    exact h2
  | x :: r, _, i + 1, q => by
    obtain ⟨w, us, rfl, h1, h2⟩ := q
    exact ⟨w, us.eraseIdx i, rfl, h1, RepL.erase i h2⟩
theorem nrL_erase : ∀ {ds : List D} (i : Nat), D.nrL ds = true → D.nrL (ds.eraseIdx i) = true
  | [], _, c => c
  | x :: r, 0, c => by
    have c' : (D.nr x && D.nrL r) = true := c
    rw [Bool.and_eq_true] at c'
    exact c'.2
  | x :: r, i + 1, c => by
    have c' : (D.nr x && D.nrL r) = true := c
    rw [Bool.and_eq_true] at c'
    show (D.nr x && D.nrL (r.eraseIdx i)) = true
    rw [c'.1, nrL_erase i c'.2]
    rfl
theorem RepL.rev {B : Bk} {F : Hp} {m : List Addr} {ds : List D} {vs : List V} (h : RepL B F m ds vs) : RepL B F m ds.reverse vs.reverse := by
  refine RepL.of_get (by rw [List.length_reverse, List.length_reverse, h.length]) fun i d v h1 h2 => ?_
  have hl := h.length
  have hi : i < ds.length := by
    have := (List.getElem?_eq_some_iff.mp h1).1
    rw [List.length_reverse] at this
    exact this
  rw [List.getElem?_reverse hi] at h1
  rw [List.getElem?_reverse (by omega), ← hl] at h2
  obtain ⟨w, e, q⟩ := h.get _ d h1
  rw [h2] at e
  cases e
  exact q
theorem je_pop (cx : CxOk g ct W X) {o y : Expr} {io iy : E} {apos pos : Pos} (hs : notSuper o = true) (hl : (apos.endLine == pos.line) = true) (hy : notStar y = true) (ho : JE g W X o (evalE T io)) (he : JE g W X y (evalE T iy)) :
    JE g W X (.Call (.Attribute o "pop" apos) [y] [] pos) (evalE T (.pop io iy)) := by
  intro ρ μ r h R F m σ H Q so ro po
  simp only [evalE] at h
  refine SE.of (pe_bm PySem.F.plainAttrs_list PySem.F.slot_list_pop PySem.F.type_list_pop (r := rPopAt) mt_popAt (pe_se X o) (pa_cons (pe_se X y) pa_nil (star_cons hy _ _)) (base_of hs) (fewB hy) hl (star_cons hy _ _) rfl) ?_
  obtain ⟨ra, ea, pa⟩ := bd_post h po (Ka := QE g fun x H1 => tyV X.K "list" x H1 ∧ SE X y σ H1 fun z H2 => rPopAt x [z] H2 Q) fun d μ1 e1 h1 F1 m1 H1 gr1 so1 x rx => by
    split at h1
    · rename_i how
      obtain ⟨k, xs, rfl, hk⟩ := own_of how
      obtain ⟨ad, ead, rfl⟩ := id rx
      obtain ⟨hF, oo, hH, ws, rfl, rr⟩ := so1.live hk ead fun _ => nofun
      refine ⟨.inl ⟨rfl, ws, SqL.of hH⟩, ?_⟩
      obtain ⟨rb, eb, pb⟩ := bd_post h1 (po.grow gr1) (Ka := QE g fun z H2 => rPopAt (.ref ad) [z] H2 Q) fun d2 μ2 e2 h2 F2 m2 H2 gr2 so2 z rz => by
        split at h2
        · rename_i i
          split at h2
          · rename_i d3 μ3 hp
            have e := Option.some.inj h2
            subst e
            obtain ⟨k', xs', j, ek, hk2, b1, b2, ej, ed, rfl⟩ := pop_of hp
            cases ek
            have ead2 := gr2.pre _ _ ead
            obtain ⟨hF2, o2, hH2, ws2, rfl, rr2⟩ := so2.live hk2 ead2 fun _ => nofun
            have rz : z = _ := rz
            subst rz
            obtain ⟨w, hw, rw'⟩ := rr2.get j d3 ed
            have hlen := rr2.length
            refine ⟨ad, ws2, i, j, w, rfl, rfl, hH2, b1, b2, by rw [← hlen]; exact (L2.ixN_seq ej).1, hw, ?_⟩
            exact po F2 m2 _ (gr1.trans gr2) (so2.put ead2 hF2 ⟨_, rfl, rr2.erase j⟩ (nrL_erase j (so2.nr _ _ hk2))) _ rw'
          · cases h2
        · cases h2
      exact he ρ μ1 rb eb R F1 m1 σ H1 _ so1 (ro.mono gr1) pb
    · cases h1
  exact ho ρ μ ra ea R F m σ H _ so ro pa
/-- a built-in type called with one argument -/
theorem call1_ty {n : Str} {id : String} {y : Expr} {p pos : Pos} (g1 : Gl X n) (hmg : X.mg n = none) (hb : bootBuiltins n = some (.type id)) (hn : n ≠ "__name__") (g2 : (n == ("__debug__" : Str)) = false) (hy : notStar y = true) {σ : St} {H : Hp} {Q : VK}
    (h : SE X y σ H fun v H1 => SCs X σ (.type id) [v] H1 Q) : SE X (.Call (.Name n p) [y] [] pos) σ H Q := by
  intro pins s I
  refine wpAny_Call_Name_kw (ld_blt (u := .type id) I g1 hmg hb ?_ hn g2)
  exact PyProof.Rows.callWith_type1 (L2.thn ((pa_cons (pe_se X y) pa_nil (star_cons hy _ _)).run pos pins s σ H (fun vs H1 => SCs X σ (.type id) vs H1 Q) I h) fun us s1 ⟨vs, H1, I1, r1, k1⟩ => k1 pins s1 us I1 r1) (star_cons hy _ _) rfl
theorem call1_blt {n : Str} {id : String} {y : Expr} {p pos : Pos} (g1 : Gl X n) (hmg : X.mg n = none) (hb : bootBuiltins n = some (.builtin id)) (hn : n ≠ "__name__") (g2 : (n == ("__debug__" : Str)) = false) (hy : notStar y = true) {σ : St} {H : Hp} {Q : VK}
    (h : SE X y σ H fun v H1 => SCs X σ (.builtin id) [v] H1 Q) : SE X (.Call (.Name n p) [y] [] pos) σ H Q := by
  intro pins s I
  refine wpAny_Call_Name_kw (ld_blt (u := .builtin id) I g1 hmg hb ?_ hn g2)
  exact PyProof.Rows.callWith_builtin1 (L2.thn ((pa_cons (pe_se X y) pa_nil (star_cons hy _ _)).run pos pins s σ H (fun vs H1 => SCs X σ (.builtin id) vs H1 Q) I h) fun us s1 ⟨vs, H1, I1, r1, k1⟩ => k1 pins s1 us I1 r1) (star_cons hy _ _) rfl
theorem SCs.of {σ : St} {f : Value} {r : List V → Hp → VK → Prop} {xs : List V} {H : Hp} {Q : VK} (h : CallR X f r) (q : r xs H Q) : SCs X σ f xs H Q := fun pins s us I rx => h pins s σ H xs us Q I rx q
/-- a sequence that is looked at -/
theorem seen_seq (cx : CxOk g ct W X) {R F : Hp} {m : List Addr} {μ : Store} {H : Hp} (so : SOk g.B R F m μ H) {d : D} {xs : List D} {v : V} (e : seqD d = some xs) (h : Seen g.B F m H d v) : ∃ a vs, v = .ref a ∧ (SqL X.K H a vs ∨ SqT X.K H a vs) ∧ RepL g.B F m xs vs := by
  cases d with
  | lst ys =>
    cases e
    obtain ⟨a, vs, rfl, hH, rr⟩ := h
    exact ⟨a, vs, rfl, .inl (SqL.of hH), rr⟩
  | tup ys =>
    cases e
    obtain ⟨a, vs, rfl, hH, rr⟩ := h
    exact ⟨a, vs, rfl, .inr (cx.K ▸ seqT_mono so.sub hH), rr⟩
  | _ => cases e
theorem je_ownl (cx : CxOk g ct W X) (fo : FnsOk g T ct.nm) {n : Str} {y : Expr} {iy : E} {p pos : Pos} (hg : chkG ct n = true) (hn : n = "list") (hy : notStar y = true) (he : JE g W X y (evalE T iy)) :
    JE g W X (.Call (.Name n p) [y] [] pos) (evalE T (.ownl iy)) := by
  intro ρ μ r h R F m σ H Q so ro po
  obtain ⟨g1, g2⟩ := chkG_of cx hg
  subst hn
  have hmg : X.mg "list" = none := by
    rw [cx.mg]
    exact fo.blt _ (by decide +kernel)
  simp only [evalE] at h
  refine call1_ty (id := "list") g1 hmg (by kernel_rfl) (by decide +kernel) g2 hy ?_
  obtain ⟨ra, ea, pa⟩ := bd_post h po (Ka := QE g fun v H1 => SCs X σ (.type "list") [v] H1 Q) fun d μ1 e1 h1 F1 m1 H1 gr1 so1 x rx => by
    split at h1
    · rename_i xs e0
      split at h1
      · rename_i hn
        have e := Option.some.inj h1
        subst e
        obtain ⟨a, vs, rfl, hq, rr⟩ := seen_seq cx so1 e0 (look_ok so1 rx)
        refine SCs.of call_list_of ⟨a, vs, rfl, hq, fun q hq' => ?_⟩
        obtain ⟨gr, so'⟩ := so1.newLive (c := .own xs) hq' ⟨vs, rfl, rr⟩ hn
        refine po F1 _ _ (gr1.trans gr) so' _ ⟨q, ?_, rfl⟩
        rw [← so1.len, List.getElem?_append_right (Nat.le_refl _), Nat.sub_self]
        rfl
      · cases h1
    · cases h1
  exact he ρ μ ra ea R F m σ H _ so ro pa
/-- a list of ints, as it lies -/
theorem ints_rep {B : Bk} {F : Hp} {m : List Addr} : ∀ {xs : List D} {ns : List Int} {vs : List V}, ints? xs = some ns → RepL B F m xs vs → vs = ns.map V.int
  | [], ns, vs, e, h => by
    have h : vs = [] := h
    cases e
    exact h
  | d :: r, ns, vs, e, h => by
    obtain ⟨v, us, rfl, h1, h2⟩ := h
    cases d with
    | int i =>
      have e : (ints? r).map (i :: ·) = some ns := e
      cases e2 : ints? r with
      | none =>
        rw [e2] at e
        cases e
      | some ms =>
        rw [e2] at e
        cases e
        have h1 : v = .int i := h1
        rw [ints_rep e2 h2, h1]
        rfl
    | _ => cases e
theorem je_cnt (cx : CxOk g ct W X) {o y : Expr} {io iy : E} {apos pos : Pos} (hs : notSuper o = true) (hl : (apos.endLine == pos.line) = true) (hy : notStar y = true) (ho : JE g W X o (evalE T io)) (he : JE g W X y (evalE T iy)) :
    JE g W X (.Call (.Attribute o "count" apos) [y] [] pos) (evalE T (.cnt io iy)) := by
  intro ρ μ r h R F m σ H Q so ro po
  simp only [evalE] at h
  refine SE.of (pe_bm PySem.F.plainAttrs_list PySem.F.slot_list_count PySem.F.type_list_count (r := rCntI X.K) mt_lcount (pe_se X o) (pa_cons (pe_se X y) pa_nil (star_cons hy _ _)) (base_of hs) (fewB hy) hl (star_cons hy _ _) rfl) ?_
  obtain ⟨ra, ea, pa⟩ := bd_post h po (Ka := QE g fun x H1 => tyV X.K "list" x H1 ∧ SE X y σ H1 fun z H2 => rCntI X.K x [z] H2 Q) fun d μ1 e1 h1 F1 m1 H1 gr1 so1 x rx => by
    split at h1
    · rename_i hil
      have s0 := look_ok so1 rx
      cases e0 : look μ1 d with
      | lst xs0 =>
        rw [e0] at s0
        obtain ⟨a, vs0, rfl, hH0, rr0⟩ := s0
        refine ⟨.inl ⟨rfl, vs0, SqL.of hH0⟩, ?_⟩
        obtain ⟨rb, eb, pb⟩ := bd_post h1 (po.grow gr1) (Ka := QE g fun z H2 => rCntI X.K (.ref a) [z] H2 Q) fun d2 μ2 e2 h2 F2 m2 H2 gr2 so2 z rz => by
          unfold cntD at h2
          split at h2
          · rename_i xs k e3
            split at h2
            · rename_i ns e4
              have e := Option.some.inj h2
              subst e
              have s3 := look_ok so2 (Rep.mono gr2 _ _ rx)
              rw [e3] at s3
              obtain ⟨a', vs, ea', hH, rr⟩ := s3
              cases ea'
              have ev := ints_rep e4 rr
              subst ev
              have rz : z = _ := rz
              subst rz
              exact ⟨a, ns, k, rfl, rfl, SqL.of hH, po F2 m2 H2 (gr1.trans gr2) so2 _ rfl⟩
            · cases h2
          · cases h2
        exact he ρ μ1 rb eb R F1 m1 σ H1 _ so1 (ro.mono gr1) pb
      | _ =>
        rw [e0] at hil
        cases hil
    · cases h1
  exact ho ρ μ ra ea R F m σ H _ so ro pa
theorem insU_mem (i : Int) : ∀ l : List Int, ∀ k, k ∈ insU i l ↔ k = i ∨ k ∈ l
  | [], k => by simp [insU]
  | j :: r, k => by
    unfold insU
    split
    · simp
    · split
      · rename_i h
        subst h
        simp
      · rw [List.mem_cons, insU_mem i r k, List.mem_cons]
        constructor
        · rintro (h | h | h)
          · exact .inr (.inl h)
          · exact .inl h
          · exact .inr (.inr h)
        · rintro (h | h | h)
          · exact .inr (.inl h)
          · exact .inl h
          · exact .inr (.inr h)
theorem srtU_mem : ∀ (l : List Int) (k : Int), k ∈ srtU l ↔ k ∈ l
  | [], k => Iff.rfl
  | i :: r, k => by
    show k ∈ insU i (srtU r) ↔ _
    rw [insU_mem, srtU_mem r k, List.mem_cons]
theorem insU_asc (i : Int) : ∀ {l : List Int}, l.Pairwise (· < ·) → (insU i l).Pairwise (· < ·)
  | [], _ => List.pairwise_singleton ..
  | j :: r, h => by
    unfold insU
    rw [List.pairwise_cons] at h
    split
    · rename_i hij
      refine List.pairwise_cons.mpr ⟨fun k hk => ?_, List.pairwise_cons.mpr h⟩
      rcases List.mem_cons.mp hk with rfl | hk
      · exact hij
      · have := h.1 k hk
        omega
    · split
      · exact List.pairwise_cons.mpr h
      · refine List.pairwise_cons.mpr ⟨fun k hk => ?_, insU_asc i h.2⟩
        rcases (insU_mem i r k).mp hk with rfl | hk
        · omega
        · exact h.1 k hk
theorem srtU_asc : ∀ l : List Int, (srtU l).Pairwise (· < ·)
  | [] => List.Pairwise.nil
  | i :: r => insU_asc i (srtU_asc r)
theorem asc_one : ∀ {a b : List Int}, a.Pairwise (· < ·) → b.Pairwise (· < ·) → (∀ k, k ∈ a ↔ k ∈ b) → a = b
  | [], [], _, _, _ => rfl
  | [], y :: t, _, _, h => absurd ((h y).mpr (List.mem_cons_self ..)) (by simp)
  | x :: r, [], _, _, h => absurd ((h x).mp (List.mem_cons_self ..)) (by simp)
  | x :: r, y :: t, ha, hb, h => by
    rw [List.pairwise_cons] at ha hb
    have hxy : x = y := by
      rcases List.mem_cons.mp ((h x).mp (List.mem_cons_self ..)) with e | e
      · exact e
      · rcases List.mem_cons.mp ((h y).mpr (List.mem_cons_self ..)) with e' | e'
        · exact e'.symm
        · have := hb.1 x e
          have := ha.1 y e'
          omega
    subst hxy
    rw [asc_one ha.2 hb.2 fun k => ?_]
    constructor
    · intro hk
      rcases List.mem_cons.mp ((h k).mp (List.mem_cons_of_mem _ hk)) with e | e
      · have := ha.1 k hk
        omega
      · exact e
    · intro hk
      rcases List.mem_cons.mp ((h k).mpr (List.mem_cons_of_mem _ hk)) with e | e
      · have := hb.1 k hk
        omega
      · exact e
theorem RepL.intsOf {B : Bk} {F : Hp} {m : List Addr} : ∀ ns : List Int, RepL B F m (ns.map D.int) (ns.map V.int)
  | [] => rfl
  | n :: r => ⟨_, _, rfl, rfl, RepL.intsOf r⟩
theorem je_sset (cx : CxOk g ct W X) (fo : FnsOk g T ct.nm) {n z : Str} {y : Expr} {iy : E} {p p2 pos pos2 : Pos} (hg : chkG ct n = true) (hn : n = "sorted") (hgz : chkG ct z = true) (hz : z = "set") (hy : notStar y = true) (he : JE g W X y (evalE T iy)) :
    JE g W X (.Call (.Name n p) [.Call (.Name z p2) [y] [] pos2] [] pos) (evalE T (.sset iy)) := by
  intro ρ μ r h R F m σ H Q so ro po
  obtain ⟨g1, g2⟩ := chkG_of cx hg
  obtain ⟨g3, g4⟩ := chkG_of cx hgz
  subst hn hz
  have m1 : X.mg "sorted" = none := by
    rw [cx.mg]
    exact fo.blt _ (by decide +kernel)
  have m2 : X.mg "set" = none := by
    rw [cx.mg]
    exact fo.blt _ (by decide +kernel)
  simp only [evalE] at h
  refine call1_blt (id := "sorted") g1 m1 (by kernel_rfl) (by decide +kernel) g2 rfl ?_
  refine call1_ty (id := "set") g3 m2 (by kernel_rfl) (by decide +kernel) g4 hy ?_
  obtain ⟨ra, ea, pa⟩ := bd_post h po (Ka := QE g fun v H1 => SCs X σ (.type "set") [v] H1 fun v H1 => SCs X σ (.builtin "sorted") [v] H1 Q) fun d μ1 e1 h1 F1 m1 H1 gr1 so1 x rx => by
    split at h1
    · rename_i xs e0
      split at h1
      · rename_i ns e2
        split at h1
        · rename_i hlt
          have e := Option.some.inj h1
          subst e
          have s0 := look_ok so1 rx
          rw [e0] at s0
          obtain ⟨a, vs, rfl, hH, rr⟩ := s0
          have ev := ints_rep e2 rr
          subst ev
          refine SCs.of (cr_setL cx.calm) ⟨a, ns, rfl, SqL.of hH, by unfold scanBound; omega, fun q c hq hc => ?_⟩
          refine SCs.of (cr_sortedSet cx.calm) ⟨q, _, c, rfl, upd_same, by omega, fun ms q2 hm1 hm2 hm3 hq2 => ?_⟩
          have em : ms = srtU ns := asc_one hm1 (srtU_asc ns) fun k => by
            rw [hm2, srtU_mem, decide_eq_true_eq]
          subst em
          have so2 : SOk g.B R F1 m1 μ1 (upd H1 q (SetO X.w q (fun j => decide (j ∈ ns)) c)) := so1.leak hq
          obtain ⟨gr, so'⟩ := so2.new (o := .lst ((srtU ns).map V.int)) hq2
          exact po _ _ _ (gr1.trans gr) so' _ ⟨q2, _, rfl, upd_same, RepL.intsOf _⟩
        · cases h1
      · cases h1
    · cases h1
  exact he ρ μ ra ea R F m σ H _ so ro pa
theorem je_rev (cx : CxOk g ct W X) {y : Expr} {iy : E} {k : Nat} {p1 p2 p3 pos : Pos} (he : JE g W X y (evalE T iy)) :
    JE g W X (.Subscript y (.Slice none none (some (.UnaryOp .USub (.Constant (.int 1) k p1) p2)) p3) pos) (evalE T (.rev iy)) := by
  intro ρ μ r h R F m σ H Q so ro po
  simp only [evalE] at h
  refine SE.of (pe_revL (pe_se X y)) ?_
  obtain ⟨ra, ea, pa⟩ := bd_post h po (Ka := QE g fun x H1 => ∃ a xs, x = .ref a ∧ SqL X.K H1 a xs ∧ ∀ q, H1 q = none → Q (.ref q) (upd H1 q (.lst xs.reverse))) fun d μ1 e1 h1 F1 m1 H1 gr1 so1 x rx => by
    split at h1
    · rename_i xs e0
      have e := Option.some.inj h1
      subst e
      have s0 := look_ok so1 rx
      rw [e0] at s0
      obtain ⟨a, vs, rfl, hH, rr⟩ := s0
      refine ⟨a, vs, rfl, SqL.of hH, fun q hq => ?_⟩
      obtain ⟨gr, so'⟩ := so1.new (o := .lst vs.reverse) hq
      refine po _ _ _ (gr1.trans gr) so' _ ⟨q, vs.reverse, rfl, upd_same, ?_⟩
      exact RepL.mono gr _ _ (RepL.rev rr)
    · cases h1
  exact he ρ μ ra ea R F m σ H _ so ro pa
/-- what is shown -/
theorem fmt_ok {B : Bk} {F : Hp} {m : List Addr} {d : D} {v : V} {y : Str} (h : fmtD d = some y) (rv : Rep B F m d v) : (v = .str y ∧ y.length ≤ sizeLine) ∨ ∃ i : Int, v = .int i ∧ i.natAbs.log2 < 1920 ∧ y = Str.ofString (toString i) := by
  cases d with
  | str x =>
    unfold fmtD at h
    dsimp only at h
    split at h
    · rename_i hl
      cases h
      exact .inl ⟨rv, hl⟩
    · cases h
  | int i =>
    unfold fmtD at h
    dsimp only at h
    split at h
    · rename_i hl
      cases h
      exact .inr ⟨i, rv, hl, rfl⟩
    · cases h
  | _ => cases h
theorem je_fsL (cx : CxOk g ct W X) : ∀ (es : List E) (xs : List Expr), chkF ct es xs = true → (∀ e ∈ es, ∀ x, chkE ct e x = true → JE g W X x (evalE T e)) →
    ∃ ts, PJ X xs ts ∧ ∀ (acc : Str) ρ μ r, evalF T es ρ acc μ = some r → ∀ R F m σ H (Q : Str → Hp → Prop), SOk g.B R F m μ H → ROk g.B F m ρ σ → Post g.B R W σ F m r (fun _ _ H' out => Q out H') → tJs ts acc σ H Q
  | [], xs, hc, _ => by
    have hx : xs = [] := by
      simp only [chkF] at hc
      exact List.isEmpty_iff.mp hc
    subst hx
    refine ⟨[], .nil, fun acc ρ μ r h R F m σ H Q so ro po => ?_⟩
    simp only [evalF] at h
    have e := rt_some h
    subst e
    exact po F m H (Grow.refl F m) so
  | e :: es, xs, hc, hj => by
    simp only [chkF] at hc
    split at hc
    · rename_i x pos r
      rw [Bool.and_eq_true] at hc
      obtain ⟨ts, hp, hk⟩ := je_fsL cx es r hc.2 fun e' he' => hj e' (List.mem_cons_of_mem _ he')
      have h1 := hj e (List.mem_cons_self ..) x hc.1
      refine ⟨_, .cons (pe_fmt (pe_se X x)) hp, fun acc ρ μ r h R F m σ H Q so ro po => ?_⟩
      simp only [evalF] at h
      show SE X x σ H fun v H1 => (∃ y : Str, v = .str y ∧ y.length ≤ sizeLine ∧ ∃ y', V.str y = .str y' ∧ (acc ++ y').length ≤ sizeLine ∧ tJs ts (acc ++ y') σ H1 Q) ∨ ∃ i : Int, v = .int i ∧ i.natAbs.log2 < 1920 ∧ ∃ y', V.str (toString i) = .str y' ∧ (acc ++ y').length ≤ sizeLine ∧ tJs ts (acc ++ y') σ H1 Q
      obtain ⟨ra, ea, pa⟩ := bd_post h po (Ka := QE g fun v H1 => (∃ y : Str, v = .str y ∧ y.length ≤ sizeLine ∧ ∃ y', V.str y = .str y' ∧ (acc ++ y').length ≤ sizeLine ∧ tJs ts (acc ++ y') σ H1 Q) ∨ ∃ i : Int, v = .int i ∧ i.natAbs.log2 < 1920 ∧ ∃ y', V.str (toString i) = .str y' ∧ (acc ++ y').length ≤ sizeLine ∧ tJs ts (acc ++ y') σ H1 Q) fun d μ1 e1 h2 F1 m1 H1 gr1 so1 v rv => by
        cases ey : fmtD d with
        | none =>
          rw [ey] at h2
          cases h2
        | some y =>
          rw [ey] at h2
          by_cases hl : (acc ++ y).length ≤ sizeLine
          · have h2 : (if (acc ++ y).length ≤ sizeLine then evalF T es ρ (acc ++ y) else up none) μ1 = some r := h2
            rw [if_pos hl] at h2
            have q := hk (acc ++ y) ρ μ1 _ h2 R F1 m1 σ H1 Q so1 (ro.mono gr1) (po.grow gr1)
            rcases fmt_ok ey rv with ⟨rfl, hy⟩ | ⟨i, rfl, hi, rfl⟩
            · exact .inl ⟨y, rfl, hy, y, rfl, hl, q⟩
            · exact .inr ⟨i, rfl, hi, _, rfl, hl, q⟩
          · have h2 : (if (acc ++ y).length ≤ sizeLine then evalF T es ρ (acc ++ y) else up none) μ1 = some r := h2
            rw [if_neg hl] at h2
            cases h2
      exact h1 ρ μ ra ea R F m σ H _ so ro pa
    · rename_i z k p r
      rw [Bool.and_eq_true] at hc
      obtain ⟨ts, hp, hk⟩ := je_fsL cx es r hc.2 fun e' he' => hj e' (List.mem_cons_of_mem _ he')
      have he : e = .str z := by
        have h1 := hc.1
        unfold isStrE at h1
        split at h1
        · rw [of_decide_eq_true h1]
        · cases h1
      subst he
      refine ⟨_, .cons pe_str hp, fun acc ρ μ r h R F m σ H Q so ro po => ?_⟩
      simp only [evalF, evalE] at h
      have h : (match fmtD (.str z) with | some y => if (acc ++ y).length ≤ sizeLine then evalF T es ρ (acc ++ y) else up none | none => up none) μ = some r := h
      unfold fmtD at h
      dsimp only at h
      by_cases hz : z.length ≤ sizeLine
      · rw [if_pos hz] at h
        dsimp only at h
        by_cases hl : (acc ++ z).length ≤ sizeLine
        · rw [if_pos hl] at h
          exact ⟨z, rfl, hl, hk (acc ++ z) ρ μ _ h R F m σ H Q so ro po⟩
        · rw [if_neg hl] at h
          cases h
      · rw [if_neg hz] at h
        cases h
    · cases hc
theorem je_fs (cx : CxOk g ct W X) {es : List E} {x y : Expr} {xs : List Expr} {pos : Pos} (hc : chkF ct es (x :: y :: xs) = true) (hj : ∀ e ∈ es, ∀ x, chkE ct e x = true → JE g W X x (evalE T e)) : JE g W X (.JoinedStr (x :: y :: xs) pos) (evalE T (.fs es)) := by
  obtain ⟨ts, hp, hk⟩ := je_fsL (T := T) cx es _ hc hj
  intro ρ μ r h R F m σ H Q so ro po
  simp only [evalE] at h
  refine SE.of (pe_joined hp) ?_
  obtain ⟨ra, ea, pa⟩ := bd_post h po (Ka := fun _ _ H1 out => Q (.str out) H1) fun out μ1 e1 h1 F1 m1 H1 gr1 so1 => by
    have e := rt_some h1
    subst e
    exact po F1 m1 H1 gr1 so1 _ rfl
  exact hk Str.empty ρ μ ra ea R F m σ H _ so ro pa
theorem call_in2 (cx : CxOk g ct W X) (fo : FnsOk g T ct.nm) {R F : Hp} {m : List Addr} {μ : Store} {H : Hp} {Q : VK} {i : Nat} {f : Addr} (hf : g.fa[i]? = some f)
    {ds : List D} {vs : List V} {σ : St} {r : Except Exc D × Store} (h : callT T i ds μ = some r) (so : SOk g.B R F m μ H) (rv : RepL g.B F m ds vs)
    (q : Post g.B R W σ F m r (fun F' m' H' d => ∀ v, Rep g.B F' m' d v → Q v H')) :
    ∀ (pins : List (Addr × Obj)) (s : Shared) (us : List Value), L2.Inv X pins σ H s → Vals vs us →
      codeAny (model X.prog X.w) X.A.in1.in1 (.call (.ref f) ⟨us, []⟩) (fun r s' => match r with | .ok (.ret v) => EP X pins σ Q v s' | .ok _ => False | .error e => X.xe e s') s := by
  unfold callT at h
  cases e : T.fns[i]? with
  | none =>
    rw [e] at h
    cases h
  | some t =>
    rw [e] at h
    obtain ⟨f', e', F0⟩ := fo.fn i t e
    rw [hf] at e'
    cases e'
    have rm : Room g.lv X.A.in1.in1 := by
      have q := cx.room
      refine ⟨q.hd, ?_, ?_⟩
      · have := q.dp
        show X.A.depth + 3 * g.lv + 5 < _
        omega
      · have := q.un
        show X.A.units + 1 + 1 + 16 * g.lv + 200 < _
        omega
    exact fun pins s us I r2 => fn_at cx F0 rm cx.gu h so rv q pins s us I I.env0.in1.in1 r2
theorem je_strf (cx : CxOk g ct W X) (fo : FnsOk g T ct.nm) {n : Str} {y : Expr} {iy : E} {p pos : Pos} (hg : chkG ct n = true) (hn : n = "str") (hy : notStar y = true) (he : JE g W X y (evalE T iy)) :
    JE g W X (.Call (.Name n p) [y] [] pos) (evalE T (.strf iy)) := by
  intro ρ μ r h R F m σ H Q so ro po
  obtain ⟨g1, g2⟩ := chkG_of cx hg
  subst hn
  have hmg : X.mg "str" = none := by
    rw [cx.mg]
    exact fo.blt _ (by decide +kernel)
  simp only [evalE] at h
  refine call1_ty (id := "str") g1 hmg (by kernel_rfl) (by decide +kernel) g2 hy ?_
  obtain ⟨ra, ea, pa⟩ := bd_post h po (Ka := QE g fun v H1 => SCs X σ (.type "str") [v] H1 Q) fun d μ1 e1 h1 F1 m1 H1 gr1 so1 x rx => by
    split at h1
    · rename_i c fs
      split at h1
      · rename_i f hf
        obtain ⟨c', fs', a, C, dx, fv, cl, e1, rfl, e2, e3, ok, hH, fa, hfa, hM, hfn⟩ := opN_at fo so1 hf rx
        cases e1
        obtain ⟨rl, el, pl⟩ := bd_post h1 (po.grow gr1) (Ka := QE g fun z H2 => ∃ x : Str, z = .str x ∧ Q (.str x) H2) fun d3 μ3 e3' h3 F3 m3 H3 gr3 so3 z rz => by
          split at h3
          · have rz : z = _ := rz
            subst rz
            have e := rt_some h3
            subst e
            exact ⟨_, rfl, po F3 m3 H3 (gr1.trans gr3) so3 _ rfl⟩
          · cases h3
        intro pins s us I ru
        have eu := ru.ref1
        subst eu
        obtain ⟨mA, O, _⟩ := ins_get I.hok hH
        obtain ⟨od, J, _⟩ := O.look
        have run := call_in2 cx fo hfa el so1 (RepL.one rx) pl pins s [.ref a] I (.cons rfl .nil)
        refine PySem.W.kso_call (by have := cx.room.un; show X.A.units + 1 + 1 < _; omega) I.kIn J (by rw [cx.K]; exact hM.at_) (by rw [cx.K]; exact hM.fn) (wpAny_mono (wpAny_call run) (fun w s' z => ?_) fun _ _ x => x)
        obtain ⟨z, H', I', rz, x, rfl, qz⟩ := z
        obtain ⟨t, rfl⟩ := rz
        exact ⟨.str x, H', I', ⟨_, rfl⟩, qz⟩
      · cases h1
    · obtain ⟨z, ez, rfl⟩ := up_some h1
      obtain ⟨y, ey, e⟩ := Option.map_eq_some_iff.mp ez
      subst e
      have q := po F1 m1 H1 gr1 so1 (.str y) rfl
      rcases fmt_ok ey rx with ⟨rfl, hy⟩ | ⟨i, rfl, hi, rfl⟩
      · exact SCs.of SkE.call_str_str ⟨y, rfl, q⟩
      · exact SCs.of call_str_int ⟨i, rfl, hi, q⟩
  exact he ρ μ ra ea R F m σ H _ so ro pa
end
end Sg
/-! SgX1: try with several clauses, each with a name or without, each of which returns. -/
namespace Sg
open PySem PySem.Spec PyProof.Rows L2
/-- a clause: the class that it names, the slot of its name, the reading of what it returns -/
abbrev Clau := Value × Option Nat × (Addr → Value → Option Addr → TE)
def slotSet (o : Option Nat) (σ : L2.St) (v : V) : L2.St := match o with
  | some i => σ.set i (some v)
  | none => σ
/-- what the clauses wish of an exception of the body -/
def wCl (K : PySem.W.Frag) (Wo : WX) (rtn : VK) : List Clau → WX
  | [] => Wo
  | p :: r => fun cls dx σ H => ∃ b, PySem.W.exmOne K cls p.1 = some b ∧ (b = true → ∀ a, H a = none → p.2.2 a cls dx (slotSet p.2.1 σ (.ref a)) H rtn) ∧ (b = false → wCl K Wo rtn r cls dx σ H)
/-- the clause's name has a slot -/
def nmOk (X : Cx) : Option Nat → Option Str → Prop
  | some i, some n => X.N[i]? = some n ∧ X.env.kindOf n = some .local
  | none, none => True
  | _, _ => False
inductive ClsOk (X : Cx) : List ExceptHandler → List Clau → Prop
  | nil : ClsOk X [] []
  | cons {x : Str} {nm : Option Str} {e : Expr} {p1 p2 p3 : Pos} {p : Clau} {hs : List ExceptHandler} {l : List Clau} (hc : Names X x p.1) (ho : nmOk X p.2.1 nm)
      (hr : ∀ (a : Addr) (oe : Obj) (cls : Value) (dx : Option Addr) (pn : List (Addr × Obj)), Zc cls dx oe → (∃ vs, oe.data = .fields vs) → PE (X.suite a ((a, oe) :: pn)) e (p.2.2 a cls dx)) (r : ClsOk X hs l) :
      ClsOk X (.ExceptHandler (some (.Name x p1)) nm [.Return (some e) p2] p3 :: hs) (p :: l)
section
variable {X : Cx}
/-- an exception that landed: one of the clauses, or it flies on -/
theorem cls_run {Wo : WX} {D : Ends} {pins : List (Addr × Obj)} (ok : X.Ok) (hs : X.stack = X.env :: X.outer) (hf : X.env.frame = some X.env.locals) (hN : X.N.Nodup) (tk : Takes X Wo) {a : Addr} {G : Heap} {s0 s1 : Shared} {τ : L2.St} {H' : Hp} {cls : Value} {dx : Option Addr} {g : Heap}
    (J : L2.Inv X pins τ H' s0) (hG : ∀ b o, s0.heap.get? b = some o → b ∉ frs X.stack → G.get? b = some o) (fl : HandSPX.FlyingZ G (X.env :: X.outer) a (Zc cls dx) g) (up : s0.heap.UpToSlots g) (ha : H' a = none) (hos : s1.os = s0.os) (hag : AllBare s1.gens) :
    ∀ {hds : List ExceptHandler} {l : List Clau}, ClsOk X hds l → wCl X.K Wo D.rt l cls dx τ H' → wpAny (model X.prog X.w) X.A (handleBy (.ref a) X.env hds) (SP X pins D) X.xe { s1 with heap := g } := by
  have I3 : L2.Inv X pins τ H' { s1 with heap := g } := J.landed hG fl.1 up hos hag
  obtain ⟨oe, vs, h1, hz, hd⟩ := fl.there
  have out : a ∉ frs (X.env :: X.outer) := fun hm => by
    obtain ⟨_, o', q1, q2⟩ := fl.2.2.1.mem hm
    rw [h1] at q1
    cases q1
    exact q2 _ hd
  have nl : a ≠ X.env.locals := fun z => out (List.mem_filterMap.mpr ⟨X.env, List.mem_cons_self, by rw [hf, z]⟩)
  have no : a ∉ X.fs := fun hm => by
    obtain ⟨v, q1, q2⟩ := List.mem_filterMap.mp hm
    exact out (List.mem_filterMap.mpr ⟨v, List.mem_cons_of_mem _ q1, q2⟩)
  have S3 := I3.suite h1 hd ha nl no
  intro hds l hk
  induction hk with
  | nil =>
    intro w
    refine wpAny_handleBy_nil ?_
    obtain ⟨k1, k2, k3, o1, v1, T, oT, t1, e1, z1, d1, f1, r1⟩ := id fl
    unfold PySem.passOn
    refine wpAny_bind (wpAny_field e1 d1 f1 ?_)
    rw [if_neg (by simp)]
    have last : wpAny (model X.prog X.w) X.A (setFlight (.ref a) X.env.frame) (fun _ s4 => wpAny (model X.prog X.w) X.A (throw (.ref a) : Sem Flow) (SP X pins D) X.xe s4) X.xe { s1 with heap := g } := by
      rw [hf]
      refine HandSPX.setFlight_upZ fl fun g2 held up2 => wpAny_throw (tk _ _ ?_)
      exact ⟨a, G, s0, pins, τ, H', cls, dx, rfl, J, hG, up.trans up2, .inr (.inr (by rw [hs]; exact held)), ha, hos, hag, w⟩
    first
      | exact wpAny_bind (wpAny_pure (wpAny_bind last))
      | exact wpAny_bind last
  | @cons x nm e p1 p2 p3 p hds2 l2 hc ho hr rest ih =>
    intro w
    obtain ⟨b, hb, yes, nay⟩ := w
    refine wpAny_handleBy_cons (codeAny_handlers_test ?_) (by intro q; cases q)
    have ty : PySem.W.Looks (model X.prog X.w) g (typeOf (.ref a)) cls := fun A Q E s k q => wpAny_typeOf_ref (k _ _ h1) (by rw [hz.1]; exact q)
    have mt := PySem.W.exm_one (M := model X.prog X.w) I3.kIn ty hb
    have test : ∀ {Q : Value → Shared → Prop} {E : Value → Shared → Prop}, Q p.1 { s1 with heap := g } → wpAny (model X.prog X.w) (X.A.mark (some (.ref a))) (eval (.Name x p1) X.env) Q E { s1 with heap := g } := fun {Q E} q => by
      obtain ⟨hg, hdb, hm | ⟨hm, hv, hnn⟩⟩ := hc
      · exact ld_glob (X := X.suite a ((a, oe) :: (X.pn ++ pins))) S3 hg hm q hdb
      · exact ld_blt (X := X.suite a ((a, oe) :: (X.pn ++ pins))) S3 hg hm hv q hnn hdb
    refine test (mt.here ?_)
    cases b with
    | false => exact ih (nay rfl)
    | true =>
      have y := yes rfl a ha
      obtain ⟨c, o, te⟩ := p
      cases nm with
      | none =>
        cases o with
        | some i => exact ho.elim
        | none =>
          refine codeAny_handlers_suite ?_
          refine HandSPX.lands_againZ fl fun g4 fl4 up4 => ?_
          have I4 : L2.Inv X pins τ H' { s1 with heap := g4 } := J.landed hG fl4.1 (up.trans up4) hos hag
          obtain ⟨o4, v4, e4, z4, d4⟩ := fl4.there
          have S4 := I4.suite e4 d4 ha nl no
          refine wpAny_mono ((pss_one (ps_ret (pos := p2) (hr a o4 cls dx (X.pn ++ pins) z4 ⟨_, d4⟩))).run [] _ _ H' D S4 y) (fun f s6 q => ?_) fun _ _ z => False.elim z
          cases f with
          | next =>
            obtain ⟨σ6, H6, S6, q6⟩ := q
            exact ⟨_, _, S6.unsuite ok, q6⟩
          | brk =>
            obtain ⟨σ6, H6, S6, q6⟩ := q
            exact ⟨_, _, S6.unsuite ok, q6⟩
          | cont =>
            obtain ⟨σ6, H6, S6, q6⟩ := q
            exact ⟨_, _, S6.unsuite ok, q6⟩
          | ret u =>
            obtain ⟨v6, σ6, H6, S6, r6, q6⟩ := q
            exact ⟨_, _, _, S6.unsuite ok, r6, q6⟩
      | some n =>
        cases o with
        | none => exact ho.elim
        | some i =>
          obtain ⟨hi, hl⟩ := ho
          refine codeAny_handlers_suite_as ?_
          refine HandSPX.lands_againZ fl fun g4 fl4 up4 => ?_
          have I4 : L2.Inv X pins τ H' { s1 with heap := g4 } := J.landed hG fl4.1 (up.trans up4) hos hag
          obtain ⟨o4, v4, e4, z4, d4⟩ := fl4.there
          have S4 := I4.suite e4 d4 ha nl no
          refine store_ok (X := X.suite a ((a, o4) :: (X.pn ++ pins))) (v := .ref a) S4 hN hi (.inl hl) rfl (fun s5 S5 => ?_) (.inr hl)
          have run := (pss_one (ps_ret (pos := p2) (hr a o4 cls dx (X.pn ++ pins) z4 ⟨_, d4⟩))).run [] s5 _ H' { nx := fun _ _ => False, rt := D.rt, bk := fun _ _ => False, ct := fun _ _ => False } S5 y
          refine wpAny_mono run (fun f s6 q => ?_) fun _ _ z => False.elim z
          cases f with
          | next =>
            obtain ⟨_, _, _, z⟩ := q
            exact z.elim
          | brk =>
            obtain ⟨_, _, _, z⟩ := q
            exact z.elim
          | cont =>
            obtain ⟨_, _, _, z⟩ := q
            exact z.elim
          | ret u =>
            obtain ⟨v6, σ6, H6, S6, r6, q6⟩ := q
            exact gone_ok (S6.unsuite ok) hN hi hl fun s7 J7 => ⟨_, _, _, J7, r6, q6⟩
/-- try: body, with the clauses -/
theorem ps_cls {Wo : WX} {body : List Stmt} {h0 : ExceptHandler} {hds : List ExceptHandler} {l : List Clau} {pos : Pos} {tb : WX → TS} (hs : X.stack = X.env :: X.outer) (hf : X.env.frame = some X.env.locals) (hN : X.N.Nodup) (tk : Takes X Wo)
    (hb : ∀ (W : WX) (pn : List (Addr × Obj)) (xe : Value → Shared → Prop), Takes (X.tr pn xe) W → PassesOwn (model X.prog X.w) X.A X.env xe → PSs (X.tr pn xe) body (tb W)) (hh : ClsOk X (h0 :: hds) l) :
    PS X (.Try body (h0 :: hds) [] [] pos) (fun D σ H => tb (wCl X.K Wo D.rt l) D σ H) := by
  refine ⟨fun pins s σ H D I h => wpAny_Try_except ?_⟩
  have ok := I.ok
  have run := (hb (wCl X.K Wo D.rt l) (X.pn ++ pins) (fun e s2 => wpAny (model X.prog X.w) X.A (noteFrame e X.env) (fun _ s3 => wpAny (model X.prog X.w) X.A (setFlight e none) (fun _ s4 =>
    wpAny (model X.prog X.w) X.A (handleBy e X.env (h0 :: hds)) (SP X pins D) X.xe s4) X.xe s3) X.xe s2) (fun u s' xx => ?_) PassesOwn.looking).run [] s σ H D (I.toTry _) h
  · refine wpAny_mono run (fun f s1 q => ?_) fun _ _ z => z
    cases f with
    | next =>
      obtain ⟨τ, H', J, z⟩ := q
      exact wpAny_execs_nil ⟨τ, H', J.ofTry ok, z⟩
    | brk =>
      obtain ⟨τ, H', J, z⟩ := q
      exact ⟨τ, H', J.ofTry ok, z⟩
    | cont =>
      obtain ⟨τ, H', J, z⟩ := q
      exact ⟨τ, H', J.ofTry ok, z⟩
    | ret u =>
      obtain ⟨v, τ, H', J, r, z⟩ := q
      exact ⟨v, τ, H', J.ofTry ok, r, z⟩
  · obtain ⟨a, G, s0, _, τ, H', cls, dx, rfl, J, hG, up, sky, ha, hos, hag, w⟩ := xx
    have sk : Sky G (X.env :: X.outer) a (Zc cls dx) X.env.locals s'.heap := by
      rw [← hs]
      exact sky
    show wpAny (model X.prog X.w) X.A (noteFrame (.ref a) X.env) _ _ _
    refine Sky.land Zc.steady (by rw [ok.frames, hs]) hf sk fun g fl up2 => ?_
    exact cls_run ok hs hf hN tk (J.ofTry ok) hG fl (up.trans up2) ha hos hag hh w
end
end Sg
/-! SgX2: what a clause hands back; a catcher; f(lambda: e). -/
namespace Sg
open PySem PySem.Spec PyProof.Rows L2
/-- what is known of a block, within an except suite too -/
structure BaseOk (g : Gx) (T : TabX) (n : NmX) (X : Cx) : Prop where
  K : X.K = g.B.K
  mg : X.mg = g.mg
  xt : XtOk g T n
  blt : ∀ x ∈ bltNames, g.mg x = none
  gu : X.A.guards = some []
  un : X.A.units + 60 < cLine
section
variable {g : Gx} {T : TabX} {n : NmX} {X : Cx} {R F : Hp} {m : List Addr} {μ : Store} {H : Hp} {Q : VK} {σ : L2.St} {a : Addr} {oe : Obj} {pn : List (Addr × Obj)} {cls : Value} {dx : Option Addr} {x : Exc} {sl : Option Nat}
/-- the clause's name -/
def slOk (X : Cx) (sl : Option Nat) : Prop := ∀ i y, sl = some i → X.N[i]? = some y → X.env.scope.names.lookup y = some .local ∧ (y == ("__debug__" : Str)) = false ∧ (y == ("__classdict__" : Str)) = false
/-- e.a -/
theorem xat_ok (b : BaseOk g T n X) {f : Str} {e : Expr} (hc : chkA X.N sl f e = true) (hsl : slOk X sl) {d : D} (h : xat T.xcs x f = some d) (so : SOk g.B R F m μ H) (rx : RepX g.B F m x cls dx) (hz : Zc cls dx oe) (hf : ∃ vs, oe.data = .fields vs)
    (hσ : ∀ i, sl = some i → σ[i]? = some (some (.ref a))) (q : ∀ v, Rep g.B F m d v → Q v H) : SE (X.suite a ((a, oe) :: pn)) e σ H Q := by
  unfold xat at h
  split at h
  · rename_i k d0 hk hds
    split at h
    · rename_i hat
      have h := Option.some.inj h
      subst h
      obtain ⟨xn, C, hn, ok⟩ := b.xt.xc _ _ hk
      obtain ⟨ns, hb, rest⟩ := rx
      rw [ok.bk, hat] at hb
      cases hb
      rcases rest with ⟨z, _⟩ | ⟨_, dd, vs, rfl, hl, hF, rv⟩
      · cases z
      rw [hds] at rv
      obtain ⟨v, us, rfl, r1, r2⟩ := rv
      have r2 : us = [] := r2
      subst r2
      obtain ⟨xf, hno, _⟩ := ok.mk1 f hat
      unfold chkA at hc
      split at hc
      · rename_i y p1 nm p2
        rw [Bool.and_eq_true, decide_eq_true_eq] at hc
        obtain ⟨rfl, hc⟩ := hc
        cases sl with
        | none => cases hc
        | some i =>
          have hi := of_decide_eq_true hc
          obtain ⟨l1, l2, l3⟩ := hsl i y rfl hi
          have pv : PE (X.suite a ((a, oe) :: pn)) (.Name y p1) (tVar i) := pe_var (X := X.suite a ((a, oe) :: pn)) hi (.inl l1) l2 l3
          refine SE.of (pe_xf (X := X) (n := nm) (C := C) (b.K ▸ xf) (by rw [b.K]; exact hno) hz hf pv) ?_
          exact ⟨.ref a, hσ i rfl, rfl, rfl, dd, _, v, rfl, so.sub _ _ hF, by simp [List.lookup], q v r1⟩
      · cases hc
    · cases h
  · cases h
theorem add_str {y : Str} {d z : D} (h : binD .Add (.str y) d = some z) : ∃ x, d = .str x ∧ y.length + x.length ≤ sizeLine ∧ z = .str (y ++ x) := by
  cases d with
  | str x =>
    have h : (if y.length + x.length ≤ sizeLine then some (D.str (y ++ x)) else none) = some z := h
    split at h
    · rename_i hl
      exact ⟨x, rfl, hl, (Option.some.inj h).symm⟩
    · cases h
  | _ => cases h
/-- what a clause hands back -/
theorem he_ok (b : BaseOk g T n X) {he : HE} {e : Expr} (hc : chkHE n X.N X.env.scope sl he e = true) (hsl : slOk X sl) {d : D} (h : hdE T.xcs x he = some d) (so : SOk g.B R F m μ H) (rx : RepX g.B F m x cls dx) (hz : Zc cls dx oe) (hf : ∃ vs, oe.data = .fields vs)
    (hσ : ∀ i, sl = some i → σ[i]? = some (some (.ref a))) (q : Aft g R F m μ d Q) : SE (X.suite a ((a, oe) :: pn)) e σ H Q := by
  cases he with
  | con d0 =>
    have h := Option.some.inj h
    subst h
    cases d0 with
    | non =>
      simp only [chkHE] at hc
      split at hc
      · exact SE.of pe_non (q.here so rfl)
      · cases hc
    | bl c =>
      simp only [chkHE] at hc
      split at hc
      · have hc := eq_of_beq hc
        subst hc
        exact SE.of pe_bl (q.here so rfl)
      · cases hc
    | int c =>
      simp only [chkHE] at hc
      split at hc
      · have hc := eq_of_beq hc
        subst hc
        exact SE.of pe_int (q.here so rfl)
      · cases hc
    | str c =>
      simp only [chkHE] at hc
      split at hc
      · have hc := of_decide_eq_true hc
        subst hc
        exact SE.of pe_str (q.here so rfl)
      · cases hc
    | _ => cases hc
  | att f => exact xat_ok b hc hsl h so rx hz hf hσ fun v rv => q.here so rv
  | cat y f =>
    simp only [chkHE] at hc
    split at hc
    · rename_i y' k p z p2
      rw [Bool.and_eq_true, decide_eq_true_eq] at hc
      obtain ⟨rfl, hc⟩ := hc
      obtain ⟨d1, e1, e2⟩ := Option.bind_eq_some_iff.mp h
      refine SE.of (pe_op (op_sb _ (binaryOp .Add)) pe_str (pe_se _ z)) ?_
      refine xat_ok b hc hsl e1 so rx hz hf hσ fun v rv => ?_
      obtain ⟨w, rfl, hl, rfl⟩ := add_str e2
      have rv : v = _ := rv
      subst rv
      exact SB.of op_add_str ⟨_, _, rfl, rfl, hl, q.here so rfl⟩
    · cases hc
  | rep y f =>
    simp only [chkHE] at hc
    split at hc
    · rename_i y' k p r p1 z p2 p3
      simp only [Bool.and_eq_true, decide_eq_true_eq] at hc
      obtain ⟨⟨⟨⟨rfl, rfl⟩, hl⟩, hst⟩, hc⟩ := hc
      obtain ⟨d1, e1, e2⟩ := Option.bind_eq_some_iff.mp h
      obtain ⟨d2, e2, e3⟩ := Option.bind_eq_some_iff.mp e2
      have hmg : X.mg "repr" = none := by
        rw [b.mg]
        exact b.blt _ (by decide)
      refine SE.of (pe_op (op_sb _ (binaryOp .Add)) pe_str (pe_callB (X := X.suite a ((a, oe) :: pn)) (call_sc _ (.builtin "repr")) hl hmg (by kernel_rfl) (pa_cons (pe_se _ z) pa_nil (star_cons hst _ _)) (he := star_cons hst _ _))) ?_
      refine xat_ok b hc hsl e1 so rx hz hf hσ fun v rv => ?_
      show SC _ _ [v] H fun u H2 => _
      refine rep_ok (X := X.suite a ((a, oe) :: pn)) (g := g) b.K b.gu b.un e2 so (rv.seen so.sub) fun F' m' H' gr so' u ru => ?_
      obtain ⟨w, rfl, hl, rfl⟩ := add_str e3
      have ru : u = _ := ru
      subst ru
      exact SB.of op_add_str ⟨_, _, rfl, rfl, hl, q F' m' H' gr so' _ rfl⟩
    · cases hc
  | isi c y z =>
    simp only [chkHE] at hc
    split at hc
    · rename_i r p1 nm p2 Cn p3 p4 y' k1 p5 z' k2 p6 p7
      simp only [Bool.and_eq_true, decide_eq_true_eq, Bool.not_eq_true'] at hc
      obtain ⟨⟨⟨⟨⟨⟨⟨rfl, hl⟩, hl2⟩, hdb⟩, hx⟩, rfl⟩, rfl⟩, hc⟩ := hc
      obtain ⟨k, hk, e2⟩ := Option.bind_eq_some_iff.mp h
      split at e2
      · rename_i hat
        have e2 := Option.some.inj e2
        subst e2
        cases sl with
        | none => cases hc
        | some i =>
          have hi := of_decide_eq_true hc
          obtain ⟨l1, l2, l3⟩ := hsl i nm rfl hi
          obtain ⟨xn, D0, hn, ok⟩ := b.xt.xc _ _ hk
          obtain ⟨k', hk'⟩ := b.xt.nm _ _ hx
          obtain ⟨xn', D1, hn', ok'⟩ := b.xt.xc _ _ hk'
          rw [hx] at hn'
          cases hn'
          obtain ⟨ns, hb, rest⟩ := rx
          rw [ok.bk, hat] at hb
          cases hb
          have edx : dx = none := by
            rcases rest with ⟨_, _, z⟩ | ⟨z, _⟩
            · exact z
            · exact absurd rfl z
          subst edx
          have kit := (b.xt.exm _ _ _ _ _ _ _ hk ok.bk ok'.bk).2
          have hmg : X.mg "isinstance" = none := by
            rw [b.mg]
            exact b.blt _ (by decide)
          have pv : PE (X.suite a ((a, oe) :: pn)) (.Name nm p2) (tVar i) := pe_var (X := X.suite a ((a, oe) :: pn)) hi (.inl l1) l2 l3
          have pc : PE (X.suite a ((a, oe) :: pn)) (.Name Cn p3) (tC (.ref D1)) := pe_glob (X := X.suite a ((a, oe) :: pn)) hl2 (by rw [b.mg]; exact ok'.mg) rfl hdb
          refine SE.of (pe_ifExp (pt_val (pe_callB (X := X.suite a ((a, oe) :: pn)) (id := "isinstance") (call_isE (X := X) (b.K ▸ ok.isi hat) hz hf) hl hmg (by decide +kernel) (pa_cons pv (pa_cons pc pa_nil)))) pe_str pe_str) ?_
          refine ⟨.ref a, hσ i rfl, .ref D1, .ref D1, _, rfl, fun u ru => ru, by rw [b.K]; exact kit, _, rfl, ?_⟩
          by_cases hin : c ∈ k.up
          · rw [if_pos hin] at q
            rw [decide_eq_true hin]
            exact q.here so rfl
          · rw [if_neg hin] at q
            rw [decide_eq_false hin]
            exact q.here so rfl
      · cases e2
    · cases hc
end
/-! ### the clauses of a text -/
def SSs0 (X : Cx) (st : List Stmt) : TS := fun D σ H => ∀ (pins : List (Addr × Obj)) (s : Shared), L2.Inv X pins σ H s → wpAny (model X.prog X.w) X.A (execs st X.env) (SP X pins D) X.xe s
theorem swaps0 {x : Str} {p1 p2 : Pos} {l : Nat} {env : Env} : swapsWith (.Call (.Name x p1) [] [] p2) none l env = pure false := rfl
theorem takes_len {X : Cx} {W : WX} (t : Takes X W) : Takes X (fun c d σ H => σ.length = X.N.length → W c d σ H) := fun u s' ⟨a, G, s0, pins, σ, H, cls, dx, e, I, k1, k2, k3, k4, k5, k6, w⟩ =>
  t u s' ⟨a, G, s0, pins, σ, H, cls, dx, e, I, k1, k2, k3, k4, k5, k6, w I.len⟩
/-- what becomes of an exception by the clauses -/
def HdlQ (g : Gx) (T : TabX) (hs : List Hd) (x : Exc) (R F : Hp) (m : List Addr) (μ : Store) (Q : VK) (wo : Prop) : Prop := match hdl T.xcs x hs with
  | some (some d) => Aft g R F m μ d Q
  | some none => wo
  | none => False
theorem cls_ex {g : Gx} {T : TabX} {n : NmX} {X : Cx} (b : BaseOk g T n X) : ∀ {hs : List Hd} {hds : List ExceptHandler}, chkHds n X.N X.env.scope hs hds = true → ∃ l : List Clau, ClsOk X hds l ∧
    ∀ (x : Exc) (cls : Value) (dx : Option Addr) (σ : L2.St) (H R F : Hp) (m : List Addr) (μ : Store) (Q : VK) (Wo : WX), SOk g.B R F m μ H → RepX g.B F m x cls dx → σ.length = X.N.length → HdlQ g T hs x R F m μ Q (Wo cls dx σ H) → wCl X.K Wo Q l cls dx σ H
  | [], [], _ => ⟨[], .nil, fun x cls dx σ H R F m μ Q Wo so rx hl q => q⟩
  | [], _ :: _, h => by cases h
  | _ :: _, [], h => by cases h
  | h :: hs, e0 :: hds, hc => by
    simp only [chkHds, Bool.and_eq_true] at hc
    obtain ⟨hc, hr⟩ := hc
    obtain ⟨l, hok, hq⟩ := cls_ex b hr
    unfold chkHd at hc
    split at hc
    · rename_i xn p1 nm e p2 p3
      simp only [Bool.and_eq_true, decide_eq_true_eq, Bool.not_eq_true'] at hc
      obtain ⟨⟨⟨⟨h1, h2⟩, h3⟩, h4⟩, h5⟩ := hc
      obtain ⟨k, hk⟩ := b.xt.nm _ _ h1
      obtain ⟨xn', C, hn', ok⟩ := b.xt.xc _ _ hk
      rw [h1] at hn'
      cases hn'
      have hsl : slOk X h.sl ∧ nmOk X h.sl nm ∧ (∀ i, h.sl = some i → i < X.N.length) := by
        split at h4
        · rename_i i y e1 
          simp only [Bool.and_eq_true, decide_eq_true_eq, Bool.not_eq_true'] at h4
          obtain ⟨⟨⟨k1, k2⟩, k3⟩, k4⟩ := h4
          refine ⟨fun i' y' e e' => ?_, ?_, fun i' e => ?_⟩
          · rw [e1] at e
            cases e
            rw [k1] at e'
            cases e'
            exact ⟨k2, k3, k4⟩
          · rw [e1]
            exact ⟨k1, k2⟩
          · rw [e1] at e
            cases e
            exact (List.getElem?_eq_some_iff.mp k1).1
        · rename_i e1
          refine ⟨fun i' y' e => ?_, ?_, fun i' e => ?_⟩
          · rw [e1] at e
            cases e
          · rw [e1]
            exact True.intro
          · rw [e1] at e
            cases e
        · cases h4
      refine ⟨(.ref C, h.sl, fun a cls dx σ H Q => ∀ (oe : Obj) (pn : List (Addr × Obj)), Zc cls dx oe → (∃ vs, oe.data = .fields vs) → SE (X.suite a ((a, oe) :: pn)) e σ H Q) :: l, .cons ⟨h2, h3, .inl (by rw [b.mg]; exact ok.mg)⟩ hsl.2.1 (fun a oe cls dx pn hz hf => ⟨fun pins s σ H Q I hh => hh oe pn hz hf pins s I⟩) hok, ?_⟩
      intro x cls dx σ H R F m μ Q Wo so rx hl q
      unfold HdlQ at q
      simp only [hdl] at q
      cases ex : T.xcs[x.c]? with
      | none =>
        rw [ex] at q
        exact q.elim
      | some kx =>
        rw [ex] at q
        obtain ⟨xm, Cx', _, okx⟩ := b.xt.xc _ _ ex
        have ecl : cls = .ref Cx' := by
          obtain ⟨ns, hb, _⟩ := rx
          rw [okx.bk] at hb
          cases hb
          rfl
        subst ecl
        have mt := (b.xt.exm _ _ _ _ _ _ _ ex okx.bk ok.bk).1
        refine ⟨decide (h.c ∈ kx.up), by rw [b.K]; exact mt, fun hd a ha oe pn hz hf => ?_, fun hd => ?_⟩
        · have hin := of_decide_eq_true hd
          simp only [if_pos hin] at q
          cases eh : hdE T.xcs x h.he with
          | none =>
            rw [eh] at q
            exact q.elim
          | some d =>
            rw [eh] at q
            have q : Aft g R F m μ d Q := q
            refine he_ok b h5 hsl.1 eh so rx hz hf (fun i e => ?_) q
            have hi := hsl.2.2 i e
            rw [e]
            exact List.getElem?_set_self (by rw [hl]; exact hi)
        · have hin := of_decide_eq_false hd
          simp only [if_neg hin] at q
          exact hq x _ dx σ H R F m μ Q Wo so rx hl q
    · cases hc
end Sg
/-! SgX3: a catcher, f(lambda: e); raise; try. -/
namespace Sg
open PySem PySem.Spec PyProof.Rows L2
/-- a constant's value -/
def conV : D → Option V
  | .non => some .non
  | .bl b => some (.bl b)
  | .int i => some (.int i)
  | .str x => some (.str x)
  | _ => none
theorem con_pe {X : Cx} {d : D} {e : Expr} (h : chkCon d e = true) : ∃ v, conV d = some v ∧ PE X e (tC v) ∧ ∀ B F m, Rep B F m d v := by
  unfold chkCon at h
  cases d with
  | non =>
    simp only [chkHE] at h
    split at h
    · exact ⟨_, rfl, pe_non, fun _ _ _ => rfl⟩
    · cases h
  | bl c =>
    simp only [chkHE] at h
    split at h
    · have h := eq_of_beq h
      subst h
      exact ⟨_, rfl, pe_bl, fun _ _ _ => rfl⟩
    · cases h
  | int c =>
    simp only [chkHE] at h
    split at h
    · have h := eq_of_beq h
      subst h
      exact ⟨_, rfl, pe_int, fun _ _ _ => rfl⟩
    · cases h
  | str c =>
    simp only [chkHE] at h
    split at h
    · have h := of_decide_eq_true h
      subst h
      exact ⟨_, rfl, pe_str, fun _ _ _ => rfl⟩
    · cases h
  | _ => cases h
theorem cat_fin {n : NmX} {N : List Str} {sc : Scope} {a : Str} {c : Cat} {body : List Stmt} {d : D} (hr : ¬ c.ret = true) (hd : c.fin = some d) (h : chkCat n N sc a c body = true) : ∃ v, conV d = some v ∧ ∀ B F m, Rep B F m d v := by
  unfold chkCat at h
  split at h
  · simp only [Bool.and_eq_true] at h
    exact absurd h.2 hr
  · simp only [Bool.and_eq_true] at h
    have h4 := h.2
    rw [hd] at h4
    have h4 : chkCon d _ = true := h4
    unfold chkCon at h4
    cases d with
    | non => exact ⟨_, rfl, fun _ _ _ => rfl⟩
    | bl b => exact ⟨_, rfl, fun _ _ _ => rfl⟩
    | int b => exact ⟨_, rfl, fun _ _ _ => rfl⟩
    | str b => exact ⟨_, rfl, fun _ _ _ => rfl⟩
    | _ => cases h4
  · cases h
/-- what a catcher makes of the reading of what it calls -/
def catT (g : Gx) (T : TabX) (c : Cat) : (XK → Hp → VK → Prop) → Hp → VK → Prop := fun tl H Q => ∃ Ech : XK,
  (∀ cls dx H', Ech cls dx H' → ∃ x R F m μ, SOk g.B R F m μ H' ∧ RepX g.B F m x cls dx ∧ HdlQ g T c.hs x R F m μ Q False) ∧
  tl Ech H (if c.ret = true then Q else fun _ H' => ∃ d v, c.fin = some d ∧ conV d = some v ∧ Q v H')
section
variable {g : Gx} {T : TabX} {n : NmX} {X : Cx}
theorem cat_gives {c : Cat} {N : List Str} {x a q : Str} {sc : Scope} {ga : Addr} {cdg : Value} {body : List Stmt} (xt : XtOk g T n) (blt : ∀ x ∈ bltNames, g.mg x = none) (hK : X.K = g.B.K) (hm : X.mg = g.mg) (hgu : X.A.guards = some []) (hun : X.A.units + 100 < cLine)
    (hnd : N.Nodup) (h0 : ∀ f : Addr, (L2.start N [V.ref f])[0]? = some (some (V.ref f))) (hc : chkCat n N sc a c body = true) : LamX.GivesTo X N x sc ga cdg body a q (catT g T c) := by
  intro f c' s H Q tl act hco h
  obtain ⟨Ech, hE, htl⟩ := h
  let Z : Cx := (cxOf C8.CX0 X.prog X.w X.K X.mg X.base N x sc ga cdg X.A X.stack s H C8.E0).nox
  have b : BaseOk g T n Z := ⟨hK, hm, xt, blt, hgu, by show X.A.units + 3 + 60 < cLine; omega⟩
  -- the try by itself
  have run : ∀ {st : Stmt} {hds : List ExceptHandler} {h₁ : ExceptHandler} {p : Pos} (hh : chkHds n N sc c.hs (h₁ :: hds) = true) (D : Ends), D.rt = Q → (∀ (W : WX) (pn : List (Addr × Obj)) (xe : Value → Shared → Prop), Takes (Z.tr pn xe) W →
      (∀ cls dx σ' H', Ech cls dx H' → W cls dx σ' H') → SSs0 (Z.tr pn xe) [st] D (L2.start N [V.ref f]) H) → ∃ t, PS Z (.Try [st] (h₁ :: hds) [] [] p) t ∧ t D (L2.start N [V.ref f]) H := by
    intro st hds h₁ p hh D hD hst
    obtain ⟨l, hok, hq⟩ := cls_ex (X := Z) b hh
    refine ⟨_, ps_cls (X := Z) (Wo := fun _ _ _ _ => False) (tb := fun W D σ H => ∀ (pn : List (Addr × Obj)) (xe : Value → Shared → Prop), Takes (Z.tr pn xe) W → SSs0 (Z.tr pn xe) [st] D σ H) rfl rfl hnd LamX.takes0 (fun W pn xe tk _ => ⟨fun pins s σ H D I hh => hh pn xe tk pins s I⟩) hok, ?_⟩
    intro pn xe tk
    refine hst _ pn xe (takes_len tk) fun cls dx σ' H' he hl => ?_
    obtain ⟨x', R, F, m, μ, so, rx, hv⟩ := hE cls dx H' he
    exact hq x' cls dx σ' H' R F m μ D.rt _ so rx hl (by rw [hD]; exact hv)
  unfold chkCat at hc
  split at hc
  · rename_i st h₁ hds p
    simp only [Bool.and_eq_true] at hc
    obtain ⟨⟨k1, k2⟩, k3⟩ := hc
    rw [if_pos k3] at htl
    unfold chkAct at k1
    split at k1
    · rw [k3] at k1
      cases k1
    · rename_i y p1 p2 p3
      rw [Bool.and_eq_true, decide_eq_true_eq] at k1
      obtain ⟨_, rfl⟩ := k1
      obtain ⟨t, ht, q'⟩ := run (p := p) k2 { nx := fun _ H' => Q .non H', rt := Q } rfl fun W pn xe tk hW pins s' I => (pss_one (ps_ret (pos := p3) (act W pn xe Ech p1 p2 tk hW))).run pins s' _ _ _ I ⟨h0 f, hco, htl⟩
      exact ⟨_, pss_one ht, q'⟩
    · cases k1
  · rename_i st h₁ hds p e p4
    simp only [Bool.and_eq_true, Bool.not_eq_true'] at hc
    obtain ⟨⟨⟨k1, k2⟩, k3⟩, k4⟩ := hc
    rw [if_neg (by rw [k3]; decide)] at htl
    unfold chkAct at k1
    split at k1
    · rename_i y p1 p2 p3
      rw [Bool.and_eq_true, decide_eq_true_eq] at k1
      obtain ⟨_, rfl⟩ := k1
      split at k4
      · rename_i d hd
        obtain ⟨v, e1, e2, e3⟩ := con_pe (X := Z) k4
        obtain ⟨t, ht, q'⟩ := run (p := p) k2 { nx := fun σ' H' => tRet (tC v) { nx := fun _ H' => Q .non H', rt := Q } σ' H', rt := Q, bk := fun _ _ => False, ct := fun _ _ => False } rfl fun W pn xe tk hW pins s' I => (pss_one (ps_expr (pos := p3) (act W pn xe Ech p1 p2 tk hW) (swaps0))).run pins s' _ _ _ I ⟨h0 f, hco, by
          have e0 : (fun (_ : V) (H' : Hp) => ∃ d v, c.fin = some d ∧ conV d = some v ∧ Q v H') = fun (_ : V) (H' : Hp) => tRet (tC v) { nx := fun _ H' => Q .non H', rt := Q } (L2.start N [V.ref f]) H' := by
            funext _ H'
            refine propext ⟨fun ⟨d', v', f1, f2, f3⟩ => ?_, fun z => ⟨d, v, hd, e1, z⟩⟩
            rw [hd] at f1
            cases f1
            rw [e1] at f2
            cases f2
            exact f3
          rw [e0] at htl
          exact htl⟩
        exact ⟨_, pss_cons ht (pss_one (ps_ret e2)), q'⟩
      · cases k4
    · rw [Bool.and_eq_true] at k1
      rw [k3] at k1
      cases k1.1
    · cases k1
  · cases hc
end
theorem isPl_ne {o : HO} (h : isPl o = true) (ps : Array Value) : o ≠ .tbl ps := fun z => by
  subst z
  cases h
theorem SOk.ext {B : Bk} {R F : Hp} {m : List Addr} {μ : Store} {H H1 : Hp} (so : SOk B R F m μ H) (e : LamX.ExtN H H1) (t : LamX.Tabs B.tabs H1) : SOk B R F m μ H1 := by
  refine ⟨fun b o hb => e _ _ (so.sub b o hb) (isPl_ne (so.pF b o hb)), so.len, fun k c hk => ?_, so.nd, so.nr, fun b o hb => e _ _ (so.fr b o hb) (isPl_ne (so.pR b o hb)), so.ap, t, so.pF, so.pR⟩
  obtain ⟨a, ea, h⟩ := so.cell k c hk
  refine ⟨a, ea, ?_⟩
  rcases h with h | ⟨h1, o, h2, h3⟩
  · exact .inl h
  · exact .inr ⟨h1, o, e _ _ h2 (isPl_ne h3.pl), h3⟩
theorem noP {ps : Arguments} (h : noParams ps = true) : ps = ⟨[], [], none, [], [], none, []⟩ := by
  unfold noParams at h
  split at h
  · rfl
  · cases h
section
variable {g : Gx} {ct : CT} {W : WX} {X : Cx} {T : Tab}
theorem je_lam (cx : CxOk g ct W X) (fo : FnsOk g T ct.nm) {x : Str} {f : Nat} {a : E} {ps : Arguments} {body : Expr} {scope : Scope} {p lpos pos : Pos} (hl : ct.lam = true) (hgd : ct.nm.gd = true) (hg : chkG ct x = true) (hx : ct.nm.x.cats[f]? = some x) (hp : noParams ps = true) (hL : LamX.lamSB ct.sc scope = true)
    (hb : ∀ (W' : WX) (X' : Cx), CxOk { g with gd := false } (ct.lamb scope) W' X' → JE g W' X' body (evalE T.plain a)) : JE g W X (.Call (.Name x p) [.Lambda ps body scope lpos] [] pos) (evalE T (.lam f a)) := by
  intro ρ μ r h R F m σ H Q so ro po
  obtain ⟨g1, g2⟩ := chkG_of cx hg
  have ep := noP hp
  subst ep
  simp only [evalE] at h
  cases hc : T.x.cats[f]? with
  | none =>
    rw [hc] at h
    cases h
  | some c =>
    rw [hc] at h
    have h : catM T.x.xcs c (evalE T.plain a ρ) μ = some r := h
    obtain ⟨hroom, cc, P, TB, hcode, hmT, hu⟩ := cx.lam hl
    obtain ⟨x', hx', ga, st, fd, an, N, k1, k2, k3, k4, k5, k6, k7, k8, k9, k10, k11⟩ := fo.xt.cat f c hc
    rw [hx] at hx'
    cases hx'
    obtain ⟨oc, od, kV, doc, pm, ann, cdv, ctv, osl, rfl, lk, hcd⟩ := k3.ex
    unfold catM at h
    cases e : evalE T.plain a ρ μ with
    | none =>
      rw [e] at h
      cases h
    | some r0 =>
      rw [e] at h
      have un := hroom.un
      refine SE.of (LamX.pe_lamcall (T := g.B.tabs) (TT := catT g T.x c) (k := g.lv + 1) (c := cc) (P := P) (Ng := N) (a := an) (t := fun E σ H Q => ∃ ρ μ r0 R F m, evalE T.plain a ρ μ = some r0 ∧ SOk g.B R F m μ H ∧ ROk g.B F m ρ σ ∧ Post g.B R (fun cls dx _ H' => E cls dx H') σ F m r0 (QE g Q))
        g1 (by rw [cx.mg]; exact k1) (by rw [cx.K]; exact k2) (by rw [cx.K]; exact lk) (by rw [cx.K]; exact hcd) (by rw [cx.K]; exact k4) k5 k6 (.inl k7)
        (cat_gives (T := T.x) (n := ct.nm.x) fo.xt fo.blt cx.K cx.mg (cx.gu (fo.gd hgd)) (by omega) k5.nd (fun f => ?_) k11) TB hcode hmT hu hroom (LamX.lamS_by (by rw [cx.sc]; exact hL)) rfl (fun _ _ _ _ _ => rfl) (fun A outer s H E f c' hr => ?_) g2 k8 k9) ?_
      · -- the first slot
        have hn : 0 < N.length := (List.getElem?_eq_some_iff.mp k6).1
        unfold L2.start
        rfl
      · refine ⟨fun pins s0 σ0 H0 Q0 I hh => ?_⟩
        obtain ⟨ρ1, μ1, r1, R1, F1, m1, e1, so1, ro1, po1⟩ := hh
        have cl : CxOk { g with gd := false } (ct.lamb scope) (fun cls dx _ H' => E cls dx H') (LamX.lamCx X A outer s H E scope f c') :=
          ⟨cx.prog, cx.w, cx.K, cx.mg, cx.base, cx.N, rfl, cx.nd, rfl, hr, (fun z => by cases z), (fun x z => by cases z), passes_of rfl, takes_of rfl rfl rfl rfl, (fun z => by cases z), (fun z => by cases z)⟩
        exact hb _ _ cl ρ1 μ1 r1 e1 R1 F1 m1 σ0 H0 Q0 so1 ro1 po1 pins s0 I
      · refine ⟨so.tb, fun H1 ext tb1 => ⟨fun cls dx H' => ∃ x μ' F' m', r0 = (.error x, μ') ∧ Grow F m F' m' ∧ SOk g.B R F' m' μ' H' ∧ RepX g.B F' m' x cls dx, ?_, ρ, μ, r0, R, F, m, e, so.ext ext tb1, ro, ?_⟩⟩
        · rintro cls dx H' ⟨z, μ', F', m', rfl, gr, so', rx⟩
          refine ⟨z, R, F', m', μ', so', rx, ?_⟩
          have h : (match hdl T.x.xcs z c.hs with
            | some (some d) => some ((Except.ok d : Except Exc D), μ')
            | _ => none) = some r := h
          unfold HdlQ
          split at h
          · rename_i d hd
            have h := Option.some.inj h
            subst h
            try rw [hd]
            exact fun F2 m2 H2 gr2 so2 v rv => po F2 m2 H2 (gr.trans gr2) so2 v rv
          · cases h
        · obtain ⟨r1, μ1⟩ := r0
          cases r1 with
          | error z => exact fun F' m' H' cls dx gr so' rx => ⟨z, μ1, F', m', rfl, gr, so', rx⟩
          | ok d =>
            intro F' m' H' gr so' v rv
            have h : (if c.ret = true then some ((Except.ok d : Except Exc D), μ1) else c.fin.map fun d => (Except.ok d, μ1)) = some r := h
            split at h
            · rename_i hr
              rw [if_pos hr]
              have h := Option.some.inj h
              subst h
              exact po F' m' H' gr so' v rv
            · rename_i hr
              rw [if_neg hr]
              obtain ⟨d', hd', rfl⟩ := Option.map_eq_some_iff.mp h
              obtain ⟨v', e1, e2⟩ := cat_fin (c := c) hr hd' k11
              exact ⟨d', v', hd', e1, po F' m' H' gr so' v' (e2 _ _ _)⟩
end
end Sg
/-! Sg9: the theorem of expressions. -/
namespace Sg
open PySem L2
def isBO : Expr → Bool
  | .BoolOp _ _ _ => true
  | _ => false
theorem XtOk.gd {g : Gx} {T : TabX} {n : NmX} (h : XtOk g T n) (b : Bool) : XtOk { g with gd := b } T n := ⟨fun c k e => by
  obtain ⟨x, C, h1, h2⟩ := h.xc c k e
  exact ⟨x, C, h1, ⟨h2.mg, h2.bk, h2.kp, h2.ex, h2.ty, h2.mk0, h2.mk1, h2.isi, h2.na⟩⟩, h.nm, h.exm, h.xl, h.cat⟩
theorem FnsOk.plain {g : Gx} {T : Tab} {n : Nm} (h : FnsOk g T n) : FnsOk { g with gd := false } T.plain { n with gd := false } :=
  ⟨h.pfn, h.gn, h.con, h.cl, h.clk, h.cln, h.kit, h.kitB, h.kitT, h.isi, h.blt, (fun z => by cases z), h.pfn, h.xt.gd _, h.lv1⟩
mutual
theorem sE {g : Gx} {T : Tab} : ∀ (ir : E) (ct : CT) (W : WX) (X : Cx) (e : Expr), FnsOk g T ct.nm → CxOk g ct W X → chkE ct ir e = true → JE g W X e (evalE T ir)
  | .non, ct, W, X, e, fo, cx, h => by
    simp only [chkE] at h
    split at h
    · exact je_c (d := .non) pe_non (fun ρ => by simp only [evalE]) fun _ _ => rfl
    · cases h
  | .bl b, ct, W, X, e, fo, cx, h => by
    simp only [chkE] at h
    split at h
    · have h := eq_of_beq h
      subst h
      exact je_c (d := .bl b) pe_bl (fun ρ => by simp only [evalE]) fun _ _ => rfl
    · cases h
  | .int i, ct, W, X, e, fo, cx, h => by
    simp only [chkE] at h
    split at h
    · have h := eq_of_beq h
      subst h
      exact je_c (d := .int i) pe_int (fun ρ => by simp only [evalE]) fun _ _ => rfl
    · cases h
  | .str x, ct, W, X, e, fo, cx, h => by
    simp only [chkE] at h
    split at h
    · have h := of_decide_eq_true h
      subst h
      exact je_c (d := .str x) pe_str (fun ρ => by simp only [evalE]) fun _ _ => rfl
    · cases h
  | .var i, ct, W, X, e, fo, cx, h => by
    simp only [chkE] at h
    split at h
    · exact je_var cx h
    · cases h
  | .raw i, ct, W, X, e, fo, cx, h => by
    simp only [chkE] at h
    split at h
    · exact je_raw cx h
    · cases h
  | .gcon i, ct, W, X, e, fo, cx, h => by
    simp only [chkE] at h
    split at h
    · rw [Bool.and_eq_true] at h
      exact je_gcon cx fo h.1 (of_decide_eq_true h.2)
    · cases h
  | .bin op a b, ct, W, X, e, fo, cx, h => by
    simp only [chkE] at h
    split at h
    · simp only [Bool.and_eq_true, decide_eq_true_eq] at h
      obtain ⟨⟨rfl, h1⟩, h2⟩ := h
      exact je_bin cx fo (sE a ct W X _ fo cx h1) (sE b ct W X _ fo cx h2)
    · cases h
  | .neg a, ct, W, X, e, fo, cx, h => by
    simp only [chkE] at h
    split at h
    · exact je_neg cx (sE a ct W X _ fo cx h)
    · cases h
  | .cmp op a b, ct, W, X, e, fo, cx, h => by
    simp only [chkE] at h
    split at h
    · simp only [Bool.and_eq_true, decide_eq_true_eq] at h
      obtain ⟨⟨⟨rfl, h0⟩, h1⟩, h2⟩ := h
      exact je_cmp cx fo h0 (sE a ct W X _ fo cx h1) (sE b ct W X _ fo cx h2)
    · cases h
  | .chain op op' a b c, ct, W, X, e, fo, cx, h => by
    simp only [chkE] at h
    split at h
    · simp only [Bool.and_eq_true, decide_eq_true_eq] at h
      obtain ⟨⟨⟨⟨⟨rfl, rfl⟩, h0⟩, h1⟩, h2⟩, h3⟩ := h
      exact je_chain cx h0 (sE a ct W X _ fo cx h1) (sE b ct W X _ fo cx h2) (sE c ct W X _ fo cx h3)
    · cases h
  | .and a b, ct, W, X, e, fo, cx, h => by
    simp only [chkE] at h
    split at h
    · rename_i x y rest pos
      rw [Bool.and_eq_true] at h
      obtain ⟨h1, h2⟩ := h
      refine je_and (sE a ct W X _ fo cx h1) ?_
      cases rest with
      | nil => exact je_one (sE b ct W X _ fo cx h2)
      | cons z zs => exact sE b ct W X _ fo cx h2
    · cases h
  | .or a b, ct, W, X, e, fo, cx, h => by
    simp only [chkE] at h
    split at h
    · rename_i x y rest pos
      rw [Bool.and_eq_true] at h
      obtain ⟨h1, h2⟩ := h
      refine je_or (sE a ct W X _ fo cx h1) ?_
      cases rest with
      | nil => exact je_one (sE b ct W X _ fo cx h2)
      | cons z zs => exact sE b ct W X _ fo cx h2
    · cases h
  | .not a, ct, W, X, e, fo, cx, h => by
    simp only [chkE] at h
    split at h
    · exact je_not (sE a ct W X _ fo cx h)
    · cases h
  | .ite c a b, ct, W, X, e, fo, cx, h => by
    simp only [chkE] at h
    split at h
    · simp only [Bool.and_eq_true] at h
      exact je_ite (sB c ct W X _ fo cx h.1.1).1 (sE a ct W X _ fo cx h.1.2) (sE b ct W X _ fo cx h.2)
    · cases h
  | .tup es, ct, W, X, e, fo, cx, h => by
    simp only [chkE] at h
    split at h
    · exact je_tup (sL es ct W X _ fo cx h)
    · cases h
  | .lst es, ct, W, X, e, fo, cx, h => by
    simp only [chkE] at h
    split at h
    · exact je_lst (sL es ct W X _ fo cx h)
    · cases h
  | .emp, ct, W, X, e, fo, cx, h => by
    simp only [chkE] at h
    split at h
    · exact je_emp
    · cases h
  | .star a, ct, W, X, e, fo, cx, h => by
    simp only [chkE] at h
    cases h
  | .own es, ct, W, X, e, fo, cx, h => by
    simp only [chkE] at h
    split at h
    · exact je_own (sL es ct W X _ fo cx h)
    · cases h
  | .dnw, ct, W, X, e, fo, cx, h => by
    simp only [chkE] at h
    split at h
    · exact je_dnw
    · cases h
  | .call f es, ct, W, X, e, fo, cx, h => by
    simp only [chkE] at h
    split at h
    · simp only [Bool.and_eq_true, decide_eq_true_eq] at h
      obtain ⟨⟨⟨⟨h1, h2⟩, h3⟩, h4⟩, h5⟩ := h
      exact je_call cx fo h1 h2 h3 h4 h5 (sL es ct W X _ fo cx h5)
    · cases h
  | .blt b es, ct, W, X, e, fo, cx, h => by
    simp only [chkE] at h
    split at h
    · simp only [Bool.and_eq_true, decide_eq_true_eq, Bool.not_eq_true', Bool.or_eq_true, decide_eq_false_iff_not] at h
      obtain ⟨⟨⟨⟨⟨h1, h2⟩, h3⟩, h4⟩, h5⟩, h6⟩ := h
      exact je_blt cx fo h1 h2 h3 h4 (fun e => h5.resolve_left fun n => n e) h6 (sL es ct W X _ fo cx h6)
    · cases h
  | .isi a t, ct, W, X, e, fo, cx, h => by
    simp only [chkE] at h
    split at h
    · cases t with
      | own c =>
        simp only [Bool.and_eq_true, decide_eq_true_eq] at h
        obtain ⟨⟨⟨⟨⟨h1, h2⟩, h3⟩, h4⟩, h5⟩, h6⟩ := h
        exact je_isi cx fo h1 h2 h3 h4 h5 (sE a ct W X _ fo cx h6)
      | ty s =>
        simp only [Bool.and_eq_true, decide_eq_true_eq] at h
        obtain ⟨⟨⟨⟨⟨h1, h2⟩, h3⟩, h4⟩, h5⟩, h6⟩ := h
        exact je_isi cx fo h1 h2 h3 h4 h5 (sE a ct W X _ fo cx h6)
    · cases h
  | .mth m o es, ct, W, X, e, fo, cx, h => by
    simp only [chkE] at h
    split at h
    · simp only [Bool.and_eq_true, decide_eq_true_eq] at h
      obtain ⟨⟨⟨⟨⟨⟨h1, h2⟩, h3⟩, h4⟩, h7⟩, h5⟩, h6⟩ := h
      exact je_mth cx h1 h2 h3 h7 h5 h6 (sE o ct W X _ fo cx h4) (sL es ct W X _ fo cx h5)
    · cases h
  | .get o k d, ct, W, X, e, fo, cx, h => by
    simp only [chkE] at h
    split at h
    · simp only [Bool.and_eq_true, decide_eq_true_eq] at h
      obtain ⟨⟨⟨⟨⟨⟨⟨rfl, h1⟩, h2⟩, h3⟩, h4⟩, h5⟩, h6⟩, h7⟩ := h
      exact je_get cx h1 h2 h3 h4 (sE o ct W X _ fo cx h5) (sE k ct W X _ fo cx h6) (sE d ct W X _ fo cx h7)
    · cases h
  | .att o x, ct, W, X, e, fo, cx, h => by
    simp only [chkE] at h
    split at h
    · simp only [Bool.and_eq_true, decide_eq_true_eq] at h
      obtain ⟨⟨rfl, h1⟩, h2⟩ := h
      exact je_att cx fo h1 (sE o ct W X _ fo cx h2)
    · cases h
  | .met o x es, ct, W, X, e, fo, cx, h => by
    simp only [chkE] at h
    split at h
    · simp only [Bool.and_eq_true, decide_eq_true_eq] at h
      obtain ⟨⟨⟨⟨⟨⟨rfl, h1⟩, h2⟩, h3⟩, h4⟩, h5⟩, h6⟩ := h
      exact je_met cx fo h1 h2 h4 h5 h6 (sE o ct W X _ fo cx h3) (sL es ct W X _ fo cx h5)
    · cases h
  | .mk c es, ct, W, X, e, fo, cx, h => by
    simp only [chkE] at h
    split at h
    · simp only [Bool.and_eq_true, decide_eq_true_eq] at h
      obtain ⟨⟨⟨h1, h2⟩, h4⟩, h5⟩ := h
      exact je_mk cx fo h1 h2 h4 h5 (sL es ct W X _ fo cx h5)
    · cases h
  | .mks c a, ct, W, X, e, fo, cx, h => by
    simp only [chkE] at h
    split at h
    · simp only [Bool.and_eq_true, decide_eq_true_eq] at h
      obtain ⟨⟨h1, h2⟩, h3⟩ := h
      exact je_mks cx fo h1 h2 (sE a ct W X _ fo cx h3)
    · cases h
  | .cm c x es, ct, W, X, e, fo, cx, h => by
    simp only [chkE] at h
    split at h
    · simp only [Bool.and_eq_true, decide_eq_true_eq, Bool.not_eq_true'] at h
      obtain ⟨⟨⟨⟨⟨⟨⟨h1, h2⟩, rfl⟩, h3⟩, h4⟩, h5⟩, h6⟩, h7⟩ := h
      exact je_cm cx fo h1 h2 h3 h4 h5 h6 h7 (sL es ct W X _ fo cx h6)
    · cases h
  | .sub o i, ct, W, X, e, fo, cx, h => by
    simp only [chkE] at h
    split at h
    · simp only [Bool.and_eq_true] at h
      exact je_sub cx fo h.1.1 (sE o ct W X _ fo cx h.1.2) (sE i ct W X _ fo cx h.2)
    · cases h
  | .slc o lo hi, ct, W, X, e, fo, cx, h => by
    simp only [chkE] at h
    split at h
    · simp only [Bool.and_eq_true] at h
      exact je_slc cx (sE o ct W X _ fo cx h.1.1) (sO lo ct W X _ fo cx h.1.2) (sO hi ct W X _ fo cx h.2)
    · cases h
  | .lc vs tg it ifs elt, ct, W, X, e, fo, cx, h => by
    simp only [chkE] at h
    split at h
    · rename_i scope _
      simp only [Bool.and_eq_true, decide_eq_true_eq, List.all_eq_true] at h
      obtain ⟨⟨⟨⟨⟨⟨⟨rfl, h1⟩, h2⟩, h3⟩, h4⟩, h5⟩, h6⟩, h7⟩ := h
      exact je_lc cx h1 h2 h3 (sI it ct W X _ _ fo cx h4) h5 (fun X' bx => sBs ifs (ct.blk scope) _ X' _ fo (Blk.ok cx bx) h6) (fun X' bx => sE elt (ct.blk scope) _ X' _ fo (Blk.ok cx bx) h7)
    · cases h
  | .lc2 vs vs1 tg it ifs tg1 it1 ifs1 elt, ct, W, X, e, fo, cx, h => by
    simp only [chkE] at h
    split at h
    · rename_i scope _
      simp only [Bool.and_eq_true, decide_eq_true_eq, List.all_eq_true] at h
      obtain ⟨⟨⟨⟨⟨⟨⟨⟨⟨⟨⟨⟨⟨⟨rfl, rfl⟩, h1⟩, h2⟩, h3⟩, h4⟩, h5⟩, h6⟩, h7⟩, h8⟩, h9⟩, k1⟩, k2⟩, k3⟩, k4⟩ := h
      exact je_lc2 cx h1 h2 h3 h4 h5 h6 (sI it ct W X _ _ fo cx h7) h8 (fun X' bx => sBs ifs (ct.blk scope) _ X' _ fo (Blk.ok cx bx) h9) (fun X' bx => sI it1 (ct.blk scope) _ X' _ _ fo (Blk.ok cx bx) k1) k2 (fun X' bx => sBs ifs1 (ct.blk scope) _ X' _ fo (Blk.ok cx bx) k3) (fun X' bx => sE elt (ct.blk scope) _ X' _ fo (Blk.ok cx bx) k4)
    · cases h
  | .pop o i, ct, W, X, e, fo, cx, h => by
    simp only [chkE] at h
    split at h
    · simp only [Bool.and_eq_true, decide_eq_true_eq] at h
      obtain ⟨⟨⟨⟨⟨rfl, h1⟩, h2⟩, h3⟩, h4⟩, h5⟩ := h
      exact je_pop cx h1 h2 h3 (sE o ct W X _ fo cx h4) (sE i ct W X _ fo cx h5)
    · cases h
  | .ownl a, ct, W, X, e, fo, cx, h => by
    simp only [chkE] at h
    split at h
    · simp only [Bool.and_eq_true, decide_eq_true_eq] at h
      obtain ⟨⟨⟨h1, h2⟩, h3⟩, h4⟩ := h
      exact je_ownl cx fo h1 h2 h3 (sE a ct W X _ fo cx h4)
    · cases h
  | .cnt o a, ct, W, X, e, fo, cx, h => by
    simp only [chkE] at h
    split at h
    · simp only [Bool.and_eq_true, decide_eq_true_eq] at h
      obtain ⟨⟨⟨⟨⟨rfl, h1⟩, h2⟩, h3⟩, h4⟩, h5⟩ := h
      exact je_cnt cx h1 h2 h3 (sE o ct W X _ fo cx h4) (sE a ct W X _ fo cx h5)
    · cases h
  | .sset a, ct, W, X, e, fo, cx, h => by
    simp only [chkE] at h
    split at h
    · simp only [Bool.and_eq_true, decide_eq_true_eq] at h
      obtain ⟨⟨⟨⟨⟨h1, h2⟩, h3⟩, h4⟩, h5⟩, h6⟩ := h
      exact je_sset cx fo h1 h2 h3 h4 h5 (sE a ct W X _ fo cx h6)
    · cases h
  | .rev a, ct, W, X, e, fo, cx, h => by
    simp only [chkE] at h
    split at h
    · exact je_rev cx (sE a ct W X _ fo cx h)
    · cases h
  | .fs es, ct, W, X, e, fo, cx, h => by
    simp only [chkE] at h
    split at h
    · exact je_fs cx h (sF es ct W X fo cx)
    · cases h
  | .strf a, ct, W, X, e, fo, cx, h => by
    simp only [chkE] at h
    split at h
    · simp only [Bool.and_eq_true, decide_eq_true_eq] at h
      obtain ⟨⟨⟨h1, h2⟩, h3⟩, h4⟩ := h
      exact je_strf cx fo h1 h2 h3 (sE a ct W X _ fo cx h4)
    · cases h
  | .lam f a, ct, W, X, e, fo, cx, h => by
    simp only [chkE] at h
    split at h
    · simp only [Bool.and_eq_true, decide_eq_true_eq] at h
      obtain ⟨⟨⟨⟨⟨⟨h1, h2⟩, h3⟩, h4⟩, h5⟩, h6⟩, h7⟩ := h
      exact je_lam cx fo h1 h2 h3 h4 h5 h6 fun W' X' cx' => sE (g := { g with gd := false }) (T := T.plain) a _ W' X' _ fo.plain cx' h7
    · cases h
theorem sF {g : Gx} {T : Tab} : ∀ (irs : List E) (ct : CT) (W : WX) (X : Cx), FnsOk g T ct.nm → CxOk g ct W X → ∀ e ∈ irs, ∀ x, chkE ct e x = true → JE g W X x (evalE T e)
  | [], ct, W, X, fo, cx => by
    intro e h
    cases h
  | ir :: irs, ct, W, X, fo, cx => by
    intro e h x hx
    cases h with
    | head => exact sE ir ct W X x fo cx hx
    | tail _ h => exact sF irs ct W X fo cx e h x hx
theorem sL {g : Gx} {T : Tab} : ∀ (irs : List E) (ct : CT) (W : WX) (X : Cx) (es : List Expr), FnsOk g T ct.nm → CxOk g ct W X → chkL ct irs es = true → JA g W X es (evalL T irs)
  | [], ct, W, X, [], fo, cx, h => ja_nil
  | [], ct, W, X, _ :: _, fo, cx, h => by cases h
  | .star a :: irs, ct, W, X, es, fo, cx, h => by
    simp only [chkL] at h
    split at h
    · rw [Bool.and_eq_true] at h
      exact ja_star cx (sE a ct W X _ fo cx h.1) (sL irs ct W X _ fo cx h.2)
    · cases h
  | ir :: irs, ct, W, X, es, fo, cx, h => by
    cases hs : isStar ir with
    | false =>
      obtain ⟨x, r, rfl, h1, h2, h3⟩ := chkL_cons hs h
      exact ja_cons hs h1 (sE ir ct W X _ fo cx h2) (sL irs ct W X _ fo cx h3)
    | true =>
      cases ir with
      | star a =>
        simp only [chkL] at h
        split at h
        · rw [Bool.and_eq_true] at h
          exact ja_star cx (sE a ct W X _ fo cx h.1) (sL irs ct W X _ fo cx h.2)
        · cases h
      | _ => cases hs
theorem sO {g : Gx} {T : Tab} : ∀ (ir : Option E) (ct : CT) (W : WX) (X : Cx) (e : Option Expr), FnsOk g T ct.nm → CxOk g ct W X → chkO ct ir e = true → JO g W X e (evalO T ir)
  | none, ct, W, X, none, fo, cx, h => jo_none
  | none, ct, W, X, some _, fo, cx, h => by cases h
  | some ir, ct, W, X, none, fo, cx, h => by cases h
  | some ir, ct, W, X, some e, fo, cx, h => by
    simp only [chkO] at h
    exact jo_some (sE ir ct W X _ fo cx h)
theorem sB {g : Gx} {T : Tab} : ∀ (ir : B) (ct : CT) (W : WX) (X : Cx) (e : Expr), FnsOk g T ct.nm → CxOk g ct W X → chkB ct ir e = true → JT g W X e (evalT T ir) ∧ (isBO e = true → JW g W X e (evalT T ir))
  | .val ir, ct, W, X, e, fo, cx, h => by
    simp only [chkB, Bool.and_eq_true] at h
    refine ⟨jt_val cx h.1 (sE ir ct W X _ fo cx h.2), fun q => ?_⟩
    have hp := h.1
    cases e <;> first | (cases q; done) | (cases hp; done)
  | .cmp op a b, ct, W, X, e, fo, cx, h => by
    simp only [chkB] at h
    split at h
    · simp only [Bool.and_eq_true, decide_eq_true_eq] at h
      obtain ⟨⟨⟨rfl, h0⟩, h1⟩, h2⟩ := h
      exact ⟨jt_cmp cx fo h0 (sE a ct W X _ fo cx h1) (sE b ct W X _ fo cx h2), fun q => by cases q⟩
    · cases h
  | .chain op op' a b c, ct, W, X, e, fo, cx, h => by
    simp only [chkB] at h
    split at h
    · simp only [Bool.and_eq_true, decide_eq_true_eq] at h
      obtain ⟨⟨⟨⟨⟨rfl, rfl⟩, h0⟩, h1⟩, h2⟩, h3⟩ := h
      exact ⟨jt_chain cx h0 (sE a ct W X _ fo cx h1) (sE b ct W X _ fo cx h2) (sE c ct W X _ fo cx h3), fun q => by cases q⟩
    · cases h
  | .not a, ct, W, X, e, fo, cx, h => by
    simp only [chkB] at h
    split at h
    · exact ⟨jt_not (sB a ct W X _ fo cx h).1, fun q => by cases q⟩
    · cases h
  | .and a b, ct, W, X, e, fo, cx, h => by
    simp only [chkB] at h
    split at h
    · rename_i x y rest pos
      rw [Bool.and_eq_true] at h
      obtain ⟨h1, h2⟩ := h
      have q : JW g W X (.BoolOp .And (x :: y :: rest) pos) (evalT T (.and a b)) := by
        refine jw_and (sB a ct W X _ fo cx h1).1 ?_
        cases rest with
        | nil => exact jw_and1 (sB b ct W X _ fo cx h2).1
        | cons z zs => exact (sB b ct W X _ fo cx h2).2 rfl
      exact ⟨q.jt, fun _ => q⟩
    · cases h
  | .or a b, ct, W, X, e, fo, cx, h => by
    simp only [chkB] at h
    split at h
    · rename_i x y rest pos
      rw [Bool.and_eq_true] at h
      obtain ⟨h1, h2⟩ := h
      have q : JW g W X (.BoolOp .Or (x :: y :: rest) pos) (evalT T (.or a b)) := by
        refine jw_or (sB a ct W X _ fo cx h1).1 ?_
        cases rest with
        | nil => exact jw_or1 (sB b ct W X _ fo cx h2).1
        | cons z zs => exact (sB b ct W X _ fo cx h2).2 rfl
      exact ⟨q.jt, fun _ => q⟩
    · cases h
theorem sBs {g : Gx} {T : Tab} : ∀ (irs : List B) (ct : CT) (W : WX) (X : Cx) (es : List Expr), FnsOk g T ct.nm → CxOk g ct W X → chkBs ct irs es = true → JTs g W X es (evalTs T irs)
  | [], ct, W, X, [], fo, cx, h => jts_nil
  | [], ct, W, X, _ :: _, fo, cx, h => by cases h
  | _ :: _, ct, W, X, [], fo, cx, h => by cases h
  | ir :: irs, ct, W, X, e :: es, fo, cx, h => by
    simp only [chkBs, Bool.and_eq_true, List.isEmpty_iff] at h
    obtain ⟨⟨h1, h2⟩, h3⟩ := h
    subst h2 h3
    exact jts_one (sB ir ct W X _ fo cx h1).1
theorem sI {g : Gx} {T : Tab} : ∀ (ir : I) (ct : CT) (W : WX) (X : Cx) (t e : Expr), FnsOk g T ct.nm → CxOk g ct W X → chkI ct ir t e = true → JI g W X t e (evalI T ir)
  | .val ir, ct, W, X, t, e, fo, cx, h => by
    simp only [chkI] at h
    exact ji_val cx (sE ir ct W X _ fo cx h)
  | .rng1 a, ct, W, X, t, e, fo, cx, h => by
    simp only [chkI] at h
    split at h
    · simp only [Bool.and_eq_true, decide_eq_true_eq] at h
      exact ji_rng1 cx fo h.1.1.1 h.1.1.2 h.1.2 (sE a ct W X _ fo cx h.2)
    · cases h
  | .rng2 a b, ct, W, X, t, e, fo, cx, h => by
    simp only [chkI] at h
    split at h
    · simp only [Bool.and_eq_true, decide_eq_true_eq] at h
      obtain ⟨⟨⟨⟨⟨h1, h2⟩, h3⟩, h4⟩, h5⟩, h6⟩ := h
      exact ji_rng2 cx fo h1 h2 h3 h4 (sE a ct W X _ fo cx h5) (sE b ct W X _ fo cx h6)
    · cases h
  | .zip a b, ct, W, X, t, e, fo, cx, h => by
    simp only [chkI] at h
    split at h
    · simp only [Bool.and_eq_true, decide_eq_true_eq] at h
      obtain ⟨⟨⟨⟨⟨⟨h0, h1⟩, h2⟩, h3⟩, h4⟩, h5⟩, h6⟩ := h
      exact ji_zip cx fo h0 h1 h2 h3 h4 (sE a ct W X _ fo cx h5) (sE b ct W X _ fo cx h6)
    · cases h
  | .enum a, ct, W, X, t, e, fo, cx, h => by
    simp only [chkI] at h
    split at h
    · simp only [Bool.and_eq_true, decide_eq_true_eq] at h
      obtain ⟨⟨⟨⟨h0, h1⟩, h2⟩, h3⟩, h4⟩ := h
      exact ji_enum cx fo h0 h1 h2 h3 (sE a ct W X _ fo cx h4)
    · cases h
end
end Sg
/-! Sg10: statements. -/
namespace Sg
open PySem L2
def SS (X : Cx) (st : Stmt) : TS := fun D σ H => ∀ (pins : List (Addr × Obj)) (s : Shared), L2.Inv X pins σ H s → wpAny (model X.prog X.w) X.A (exec st X.env) (SP X pins D) X.xe s
theorem ps_ss (X : Cx) (st : Stmt) : PS X st (SS X st) := ⟨fun pins s σ H D I h => h pins s I⟩
theorem SS.of {X : Cx} {st : Stmt} {t : TS} {D : Ends} {σ : St} {H : Hp} (h : PS X st t) (q : t D σ H) : SS X st D σ H := fun pins s I => h.run pins s σ H D I q
def SSs (X : Cx) (st : List Stmt) : TS := fun D σ H => ∀ (pins : List (Addr × Obj)) (s : Shared), L2.Inv X pins σ H s → wpAny (model X.prog X.w) X.A (execs st X.env) (SP X pins D) X.xe s
theorem pss_sss (X : Cx) (st : List Stmt) : PSs X st (SSs X st) := ⟨fun pins s σ H D I h => h pins s I⟩
theorem SSs.of {X : Cx} {st : List Stmt} {t : TS} {D : Ends} {σ : St} {H : Hp} (h : PSs X st t) (q : t D σ H) : SSs X st D σ H := fun pins s I => h.run pins s σ H D I q
/-- what follows a statement -/
def PostS (g : Gx) (R : Hp) (W : WX) (F : Hp) (m : List Addr) (r : Fl × Rho × Store) (D : Ends) : Prop := ∀ F' m' σ' H', Grow F m F' m' → SOk g.B R F' m' r.2.2 H' → ROk g.B F' m' r.2.1 σ' → match r.1 with
  | .next => D.nx σ' H'
  | .brk => D.bk σ' H'
  | .cont => D.ct σ' H'
  | .ret d => ∀ v, Rep g.B F' m' d v → D.rt v H'
  | .exc x => ∀ cls dx, RepX g.B F' m' x cls dx → W cls dx σ' H'
def JS (g : Gx) (W : WX) (X : Cx) (st : Stmt) (f : Rho → Store → Option (Fl × Rho × Store)) : Prop := ∀ ρ μ r, f ρ μ = some r → ∀ R F m σ H (D : Ends), SOk g.B R F m μ H → ROk g.B F m ρ σ → PostS g R W F m r D → SS X st D σ H
def JSs (g : Gx) (W : WX) (X : Cx) (st : List Stmt) (f : Rho → Store → Option (Fl × Rho × Store)) : Prop := ∀ ρ μ r, f ρ μ = some r → ∀ R F m σ H (D : Ends), SOk g.B R F m μ H → ROk g.B F m ρ σ → PostS g R W F m r D → SSs X st D σ H
section
variable {g : Gx} {ct : CT} {W : WX} {X : Cx} {T : Tab}
theorem PostS.grow {R F F1 : Hp} {m m1 : List Addr} {r : Fl × Rho × Store} {D : Ends} (h : PostS g R W F m r D) (gr : Grow F m F1 m1) : PostS g R W F1 m1 r D := fun F' m' σ' H' g' => h F' m' σ' H' (gr.trans g')
theorem andS_post {α : Type} {x : M α} {ρ : Rho} {k : α → Store → Option (Fl × Rho × Store)} {μ : Store} {r : Fl × Rho × Store} {R F : Hp} {m : List Addr} {σ : St} {D : Ends} {Ka : Hp → List Addr → Hp → α → Prop}
    (h : andS x ρ k μ = some r) (ro : ROk g.B F m ρ σ) (po : PostS g R W F m r D) (hk : ∀ a μ1, x μ = some (.ok a, μ1) → k a μ1 = some r → ∀ F1 m1 H1, Grow F m F1 m1 → SOk g.B R F1 m1 μ1 H1 → Ka F1 m1 H1 a) :
    ∃ ra, x μ = some ra ∧ Post g.B R W σ F m ra Ka := by
  unfold andS at h
  cases e : x μ with
  | none =>
    rw [e] at h
    cases h
  | some ra =>
    rw [e] at h
    obtain ⟨r1, μ1⟩ := ra
    refine ⟨_, rfl, ?_⟩
    cases r1 with
    | ok a => exact fun F' m' H' gr so => hk a μ1 e h F' m' H' gr so
    | error z =>
      have h : some (Fl.exc z, ρ, μ1) = some r := h
      have h := Option.some.inj h
      subst h
      exact fun F' m' H' cls dx gr so rx => po F' m' σ H' gr so (ro.mono gr) cls dx rx

end
def notComp : Expr → Bool
  | .ListComp _ _ _ _ => false
  | .SetComp _ _ _ _ => false
  | .DictComp _ _ _ _ _ => false
  | _ => true
def isNm : Expr → Bool
  | .Name _ _ => true
  | _ => false
def notTup : Expr → Bool
  | .Tuple _ _ _ => false
  | _ => true
/-- a tuple of targets, one of them a name that an inner block reads -/
def celN (ct : CT) : Expr → Bool
  | .Name x _ => decide (ct.sc.names.lookup x = some .cell)
  | _ => false
def celT (ct : CT) : Expr → Bool
  | .Tuple ts _ _ => ts.any (celN ct)
  | _ => false
def isLc : E → Bool
  | .lc _ _ _ _ _ => true
  | _ => false
def lcNm (t v : Expr) : Bool := match t, v with
  | .Name _ _, .ListComp _ _ _ _ => true
  | _, _ => false
/-! patterns -/
def chkP1 (ct : CT) : P1 → Pattern → Bool
  | .lit x, p => match p with
    | .MatchValue (.Constant (.str y) _ _) _ => decide (x = y)
    | _ => false
  | .nm i, p => match p with
    | .MatchAs none (some y) _ => decide (ct.N[i]? = some y) && (match ct.sc.names.lookup y with
      | some .local => true
      | some .cell => ct.fn y
      | _ => false)
    | _ => false
  | .wild, p => match p with
    | .MatchAs none none _ => true
    | _ => false
def chkPs (ct : CT) : List P1 → List Pattern → Bool
  | [], l => l.isEmpty
  | p :: r, l => match l with
    | q :: t => chkP1 ct p q && chkPs ct r t
    | [] => false
def chkOr (ct : CT) : List Str → List Pattern → Bool
  | [], l => l.isEmpty
  | x :: r, l => match l with
    | q :: t => chkP1 ct (.lit x) q && chkOr ct r t
    | [] => false
def chkPt (ct : CT) : Pt → Pattern → Bool
  | .one p, q => chkP1 ct p q
  | .seq ps, q => match q with
    | .MatchSequence qs _ => chkPs ct ps qs && !(qs.all fun p => p.isWildcard || (p.isStar && p.names.isEmpty))
    | _ => false
  | .or xs, q => match q with
    | .MatchOr qs _ => chkOr ct xs qs
    | _ => false
mutual
def chkS (ct : CT) : S → Stmt → Bool
  | .asg tg e, st => match st with
    | .Assign [t] v _ => chkTg ct tg t && chkE ct e v && (if notComp v then isNm t || notTup v || celT ct t else (lcNm t v && isLc e))
    | _ => false
  | .par i j a b, st => match st with
    | .Assign [.Tuple [.Name x px, .Name y py] _ _] (.Tuple [u, v] _ _) _ => decide (ct.N[i]? = some x) && decide (ct.N[j]? = some y) && decide (i ≠ j) && decide (ct.sc.names.lookup x = some .local) && decide (ct.sc.names.lookup y = some .local) && decide (x ≠ y) &&
        notStar u && notStar v && (py.line == px.line) && !(foldedForSure 8 u && foldedForSure 8 v) && !(constantsAlone 8 u && constantsAlone 8 v) && chkE ct a u && chkE ct b v
    | _ => false
  | .put k i e, st => match st with
    | .Assign [.Subscript o y _] v _ => notSlice y && notComp v && chkE ct (.raw k) o && chkE ct i y && chkE ct e v
    | _ => false
  | .fld k x e, st => match st with
    | .Assign [.Attribute o nm _] v _ => decide (nm = x) && notComp v && chkE ct (.raw k) o && chkE ct e v
    | _ => false
  | .app k e, st => match st with
    | .Expr (.Call (.Attribute o nm apos) [y] [] pos) _ => decide (nm = "append") && notSuper o && (apos.endLine == pos.line) && notStar y && chkE ct (.raw k) o && chkE ct e y
    | _ => false
  | .ext k e, st => match st with
    | .Expr (.Call (.Attribute o nm apos) [y] [] pos) _ => decide (nm = "extend") && notSuper o && (apos.endLine == pos.line) && notStar y && chkE ct (.raw k) o && chkE ct e y
    | _ => false
  | .ife c a b, st => match st with
    | .If t x y _ => chkB ct c t && chkSs ct a x && chkSs ct b y
    | _ => false
  | .for tg it body, st => match st with
    | .For t i b [] _ => notSet i && chkTg ct tg t && chkI ct it t i && chkSs ct body b
    | _ => false
  | .ret e, st => match st with
    | .Return (some v) _ => chkE ct e v
    | _ => false
  | .retN, st => match st with
    | .Return none _ => true
    | _ => false
  | .retS es, st => match st with
    | .Return (some (.List xs _)) _ => chkL ct es xs
    | _ => false
  | .expr e, st => match st with
    | .Expr v _ => notComp v && chkE ct e v
    | _ => false
  | .pass, st => match st with
    | .Pass _ => true
    | _ => false
  | .brk, st => match st with
    | .Break _ => true
    | _ => false
  | .cont, st => match st with
    | .Continue _ => true
    | _ => false
  | .dead, _ => true
  | .rai c e, st => match st with
    | .Raise (some (.Call (.Name x _) [y] [] _)) none _ => chkG ct x && decide (ct.nm.x.xns[c]? = some x) && notStar y && chkE ct e y
    | _ => false
  | .rai0 c, st => match st with
    | .Raise (some (.Call (.Name x _) [.Constant (.str _) _ _] [] _)) none _ => chkG ct x && decide (ct.nm.x.xns[c]? = some x)
    | _ => false
  | .tri body hs, st => match st with
    | .Try b (h :: hds) [] [] _ => ct.top && ct.nm.gd && chkHds ct.nm.x ct.N ct.sc hs (h :: hds) && chkSs ct body b
    | _ => false
  | .mat e c, st => match st with
    | .Match x cs _ => chkE ct e x && chkC ct c cs
    | _ => false
  | .cas _ _ _, _ => false
  | .nomore, _ => false
  | .aug i op e, st => match st with
    | .AugAssign (.Name x _) o y _ => decide (o = op) && augOk op && decide (ct.N[i]? = some x) && (match ct.sc.names.lookup x with
      | some .local => true
      | some .cell => ct.fn x
      | _ => false) && chkE ct e y
    | _ => false
  | .whl _ c body, st => match st with
    | .While t b [] _ => chkB ct c t && chkSs ct body b
    | _ => false
def chkC (ct : CT) : S → List MatchCase → Bool
  | .cas p b r, l => match l with
    | ⟨q, none, bd⟩ :: t => chkPt ct p q && chkSs ct b bd && chkC ct r t
    | _ => false
  | .nomore, l => l.isEmpty
  | _, _ => false
def chkSs (ct : CT) : List S → List Stmt → Bool
  | [], xs => xs.isEmpty
  | s :: r, xs => match xs with
    | x :: xr => chkS ct s x && chkSs ct r xr
    | [] => false
end
/-! ### the text's small facts -/
theorem swaps_tg {v t : Expr} {l : Nat} {env : Env} (h : notComp v = true) : swapsWithSole [t] v l env = pure false := by
  cases v <;> first | rfl | cases h
theorem swaps_e {v : Expr} {l : Nat} {env : Env} (h : notComp v = true) : swapsWith v none l env = pure false := by
  cases v <;> first | rfl | cases h
theorem stores_none {t v : Expr} {env : Env} (h : (isNm t || notTup v) = true) : swappedStores [t] v env = pure none := by
  cases t <;> first | rfl | (cases v <;> first | rfl | cases h)
theorem fm_lt {α β : Type} {f : α → Option β} : ∀ {xs : List α} {x : α}, x ∈ xs → f x = none → (xs.filterMap f).length < xs.length
  | y :: r, x, h, e => by
    rw [List.filterMap_cons]
    cases h with
    | head =>
      rw [e]
      exact Nat.lt_succ_of_le (List.length_filterMap_le ..)
    | tail _ h =>
      have := fm_lt h e
      cases f y with
      | none => exact Nat.lt_succ_of_lt this
      | some z => exact Nat.succ_lt_succ this
theorem stores_cel {ct : CT} {t v : Expr} {env : Env} (he : env.scope = ct.sc) (h : celT ct t = true) : swappedStores [t] v env = pure none := by
  cases t with
  | Tuple ts k p =>
    cases v with
    | Tuple vs k' p' =>
      have h : ts.any (celN ct) = true := h
      rw [List.any_eq_true] at h
      obtain ⟨x, hx, hc⟩ := h
      cases x with
      | Name x px =>
        have hc : ct.sc.names.lookup x = some .cell := of_decide_eq_true hc
        have hk : env.kindOf x = some .cell := by
          show env.scope.names.lookup x = _
          rw [he]
          exact hc
        unfold swappedStores
        simp only [pure_bind]
        split
        · rfl
        · split
          · rfl
          · rw [if_pos]
            have hlt := fm_lt (f := fun (e : Expr) => match e with
              | .Name id pos => if env.kindOf id == some .local && pos.line == (ts.head?.map (·.pos.line)).getD 0 then some id else none
              | _ => none) hx (by
                show (if env.kindOf x == some .local && _ then some x else none) = none
                rw [hk]
                rfl)
            have hne : ∀ a b : Nat, a < b → (a != b) = true := fun a b h => by
              rw [bne_iff_ne]
              omega
            rw [Bool.or_eq_true]
            exact .inl (hne _ _ hlt)
      | _ => cases hc
    | _ => rfl
  | _ => cases h
theorem asg_one {t : Expr} {env : Env} : (assignEach [t] env).map (·.2) = [assign t env] ∨ notStar t = false := by
  cases t <;> first | exact .inl rfl | exact .inr rfl
theorem tg_star {ct : CT} {tg : Tg} {t : Expr} (h : chkTg ct tg t = true) : notStar t = true := by
  cases tg with
  | name i =>
    simp only [chkTg] at h
    split at h
    · rfl
    · cases h
  | tup ts =>
    simp only [chkTg] at h
    split at h
    · rfl
    · cases h
section
variable {g : Gx} {ct : CT} {W : WX} {X : Cx} {T : Tab}
theorem tgs_one {tg : Tg} {t : Expr} {env : Env} (h : chkTg ct tg t = true) : (assignEach [t] env).map (·.2) = [assign t env] := by
  rcases asg_one (t := t) (env := env) with q | q
  · exact q
  · rw [tg_star h] at q
    cases q
theorem js_asg (cx : CxOk g ct W X) {t v : Expr} {tg : Tg} {e : E} {pos : Pos} (ht : chkTg ct tg t = true) (hs : ∀ (pins : List (Addr × Obj)) (s : Shared) (σ : St) (H : Hp), L2.Inv X pins σ H s → swapsWithSole [t] v pos.line X.env = pure false) (hw : swappedStores [t] v X.env = pure none)
    (he : JE g W X v (evalE T e)) : JS g W X (.Assign [t] v pos) (execS T (.asg tg e)) := by
  intro ρ μ r h R F m σ H D so ro po pins s I
  simp only [execS] at h
  refine (ps_asg (pe_se X v) (pg_sg X t) (hs pins s σ H I) hw (tgs_one ht)).run pins s σ H D I ?_
  obtain ⟨ra, ea, pa⟩ := andS_post h ro po (Ka := QE g fun x H1 => SG X t x σ H1 D.nx) fun d μ1 e1 h1 F1 m1 H1 gr1 so1 x rx => by
    cases eb : bindT tg d ρ with
    | none =>
      rw [eb] at h1
      cases h1
    | some ρ1 =>
      rw [eb] at h1
      have h1 := Option.some.inj h1
      subst h1
      exact tg_ok cx tg t ht d ρ ρ1 eb R F1 m1 μ1 σ H1 x _ so1 (ro.mono gr1) rx fun σ' ro' _ => po F1 m1 σ' H1 gr1 so1 ro'
  exact he ρ μ ra ea R F m σ H _ so ro pa
theorem js_setLc (cx : CxOk g ct W X) {y t i : Expr} {cs : List Expr} {scope : Scope} {pos cpos py : Pos} {vs : List Nat} {tg : Tg} {it : I} {ifs : List B} {elt : E} {k : Nat} {x : Str} (hns : notSet i = true) (hbl : blkC ct.N ct.sc scope (vs.map fun v => (ct.N.getD v "", v)) = true)
    (hk : ct.N[k]? = some x) (hl : ct.sc.names.lookup x = some .local) (hln : (py.line == cpos.line) = true) (hno : (scope.names.any fun (n, q) => n == x && (q == .local || q == .cell)) = false)
    (hsl : ∀ j ∈ tg.slots, j ∈ vs) (hi : JI g W X t i (evalI T it)) (ht : chkTg (ct.blk scope) tg t = true) (hcs : ∀ X', Blk X scope X' → JTs g (fun _ _ _ _ => False) X' cs (evalTs T ifs)) (he : ∀ X', Blk X scope X' → JE g (fun _ _ _ _ => False) X' y (evalE T elt)) :
    JS g W X (.Assign [.Name x py] (.ListComp y [⟨t, i, cs, 0⟩] scope cpos) pos) (execS T (.asg (.name k) (.lc vs tg it ifs elt))) := by
  intro ρ μ r h R F m σ H D so ro po pins s I
  simp only [execS] at h
  obtain ⟨bok, evs⟩ := lc_pe cx (y := y) (t := t) (i := i) (cs := cs) hbl
  have hl' : X.env.scope.names.lookup x = some .local := by
    rw [cx.sc]
    exact hl
  refine (ps_setLc (i := k) cx.calm (by rw [cx.N]; exact cx.nd) (by rw [cx.N]; exact hk) hl' (sw_true I.ok.kind hl' hln hno) (pi_si X t i) bok lc_pg lc_pt lc_el (set_of hns)).run pins s σ H D I ?_
  show tLc _ _ _ _ _ σ H fun z H1 => D.nx (σ.set k (some z)) H1
  rw [evs]
  obtain ⟨ra, ea, pa⟩ := andS_post h ro po (Ka := QE g fun z H1 => D.nx (σ.set k (some z)) H1) fun d μ1 e1 h1 F1 m1 H1 gr1 so1 z rz => by
    have h1 : some (Fl.next, ρ.set k (some d), μ1) = some r := h1
    have h1 := Option.some.inj h1
    subst h1
    exact po F1 m1 _ H1 gr1 so1 ((ro.mono gr1).set k rz)
  exact lc_read cx hsl hi ht hcs he ea so ro pa
theorem js_par (cx : CxOk g ct W X) {x y : Str} {u v : Expr} {i j : Nat} {a b : E} {px py pt pos pt2 : Pos} {kt k2 : Nat} (hi : ct.N[i]? = some x) (hj : ct.N[j]? = some y) (hij : i ≠ j) (hx : ct.sc.names.lookup x = some .local) (hy : ct.sc.names.lookup y = some .local) (hxy : x ≠ y)
    (hu : notStar u = true) (hv : notStar v = true) (hl : (py.line == px.line) = true) (hf : (foldedForSure 8 u && foldedForSure 8 v) = false) (hc : (constantsAlone 8 u && constantsAlone 8 v) = false) (ha : JE g W X u (evalE T a)) (hb : JE g W X v (evalE T b)) :
    JS g W X (.Assign [.Tuple [.Name x px, .Name y py] kt pt] (.Tuple [u, v] k2 pt2) pos) (execS T (.par i j a b)) := by
  intro ρ μ r h R F m σ H D so ro po pins s I
  simp only [execS] at h
  have hx' : X.env.scope.names.lookup x = some .local := by
    rw [cx.sc]
    exact hx
  have hy' : X.env.scope.names.lookup y = some .local := by
    rw [cx.sc]
    exact hy
  have hw : swappedStores [.Tuple [.Name x px, .Name y py] kt pt] (.Tuple [u, v] k2 pt2) X.env = pure (some [x, y]) := by
    have kx : X.env.kindOf x = some .local := hx'
    have ky : X.env.kindOf y = some .local := hy'
    have bk : X.env.blockKind = .function := by
      unfold Env.blockKind
      rw [I.ok.kind]
      rfl
    have hl' : py.line = px.line := eq_of_beq hl
    have dd : [x, y].eraseDups.length = 2 := by
      have hyx : (y == x) = false := beq_eq_false_iff_ne.mpr fun e => hxy e.symm
      simp [List.eraseDups_cons, hyx]
    have ff : [u, v].all (foldedForSure 8) = false := by
      simp only [List.all_cons, List.all_nil, Bool.and_true]
      exact hf
    have cc : [u, v].all (constantsAlone 8) = false := by
      simp only [List.all_cons, List.all_nil, Bool.and_true]
      exact hc
    unfold swappedStores
    simp only [List.length_cons, List.length_nil, bk, List.head?_cons, Option.map_some, Option.getD_some, List.filterMap_cons, List.filterMap_nil, Expr.pos, kx, ky, hl', dd, ff, cc]
    rw [if_neg (by decide), if_neg ?st]
    case st =>
      intro hany
      rw [List.any_eq_true] at hany
      obtain ⟨e, he, hm⟩ := hany
      simp only [List.mem_cons, List.not_mem_nil, or_false] at he
      rcases he with rfl | rfl
      · cases e <;> first | (cases hm; done) | (cases hu; done)
      · cases e <;> first | (cases hm; done) | (cases hv; done)
    have bl : (px.line == px.line) = true := beq_self_eq_true _
    have kk : (some NameKind.local == some NameKind.local) = true := by decide
    simp only [bl, kk, Bool.and_self, if_true, List.length_cons, List.length_nil, dd]
    rfl
  refine (ps_par (i := i) (j := j) cx.calm (by rw [cx.N]; exact cx.nd) (by rw [cx.N]; exact hi) (by rw [cx.N]; exact hj) hij hx' hy' (pa_cons (pe_se X u) (pa_cons (pe_se X v) pa_nil (star_cons hv _ _)) (star_cons hu _ _)) hw).run pins s σ H D I ?_
  obtain ⟨ra, ea, pa⟩ := andS_post h ro po (Ka := QE g fun z H1 => SE X v σ H1 fun w' H2 => ∃ p q, [z, w'] = [p, q] ∧ D.nx ((σ.set i (some p)).set j (some q)) H2) fun d μ1 e1 h1 F1 m1 H1 gr1 so1 z rz => by
    obtain ⟨rb, eb, pb⟩ := andS_post h1 (ro.mono gr1) (po.grow gr1) (Ka := QE g fun w' H2 => ∃ p q, [z, w'] = [p, q] ∧ D.nx ((σ.set i (some p)).set j (some q)) H2) fun d2 μ2 e2 h2 F2 m2 H2 gr2 so2 z2 rz2 => by
      have h2 := Option.some.inj h2
      subst h2
      exact ⟨z, z2, rfl, po F2 m2 _ H2 (gr1.trans gr2) so2 (((ro.mono (gr1.trans gr2)).set i (Rep.mono gr2 _ _ rz)).set j rz2)⟩
    exact hb ρ μ1 rb eb R F1 m1 σ H1 _ so1 (ro.mono gr1) pb
  exact ha ρ μ ra ea R F m σ H _ so ro pa
/-- a store to a place, by values -/
def SSet (X : Cx) : TSet := fun o i v H Q => ∀ (pins : List (Addr × Obj)) (s : Shared) (σ : St) (ov iv u : Value), L2.Inv X pins σ H s → RelV o ov → RelV i iv → RelV v u → wpAny (model X.prog X.w) X.A (setItem ov iv u) (fun _ s' => ∃ H', L2.Inv X pins σ H' s' ∧ Q H') X.xe s
theorem set_sset (X : Cx) : PSet X (SSet X) := fun pins s σ H o i v ov iv u Q I ro ri rv h => h pins s σ ov iv u I ro ri rv
theorem SSet.of {t : TSet} {o i v : V} {H : Hp} {Q : Hp → Prop} (h : PSet X t) (q : t o i v H Q) : SSet X o i v H Q := fun pins s σ ov iv u I ro ri rv => h pins s σ H o i v ov iv u Q I ro ri rv q
theorem zip_put : ∀ {ks : List Key} {xs : List D} {vs : List V} {B : Bk} {F : Hp} {m : List Addr} {d : D} {v : V} (k : Key), ks.length = vs.length → RepL B F m xs vs → Rep B F m d v →
    (ks.zip vs).map (fun kv => if kv.1 = k then (kv.1, v) else kv) = ks.zip ((ks.zip vs).map fun kv => if kv.1 = k then v else kv.2) ∧ RepL B F m (dPutX ks xs k d) ((ks.zip vs).map fun kv => if kv.1 = k then v else kv.2) ∧ ks.length = ((ks.zip vs).map fun kv => if kv.1 = k then v else kv.2).length
  | [], xs, vs, B, F, m, d, v, k, hl, r, rd => ⟨rfl, rfl, rfl⟩
  | y :: ks, [], vs, B, F, m, d, v, k, hl, r, rd => by
    have r : vs = [] := r
    subst r
    cases hl
  | y :: ks, x :: xs, _, B, F, m, d, v, k, hl, r, rd => by
    obtain ⟨w, us, rfl, r1, r2⟩ := r
    have hl : ks.length = us.length := by simpa using hl
    obtain ⟨q1, q2, q3⟩ := zip_put k hl r2 rd
    refine ⟨?_, ?_, ?_⟩
    · rw [List.zip_cons_cons, List.map_cons, List.map_cons, List.zip_cons_cons, q1]
      congr 1
      split <;> rfl
    · refine ⟨_, _, rfl, ?_, q2⟩
      show Rep B F m (if y = k then d else x) (if y = k then v else w)
      split
      · exact rd
      · exact r1
    · rw [List.zip_cons_cons, List.map_cons, List.length_cons, List.length_cons, ← q3]
theorem nrL_put {d : D} (hd : d.nr = true) (k : Key) : ∀ {ks : List Key} {xs : List D}, D.nrL xs = true → D.nrL (dPutX ks xs k d) = true
  | [], _, _ => rfl
  | _ :: _, [], _ => rfl
  | y :: ks, x :: xs, h => by
    have h : (D.nr x && D.nrL xs) = true := h
    rw [Bool.and_eq_true] at h
    show (D.nr (if y = k then d else x) && D.nrL (dPutX ks xs k d)) = true
    rw [nrL_put hd k h.2]
    split
    · rw [hd]
      rfl
    · rw [h.1]
      rfl
theorem nrL_app : ∀ {xs ys : List D}, D.nrL xs = true → D.nrL ys = true → D.nrL (xs ++ ys) = true
  | [], _, _, h => h
  | x :: xs, ys, h, q => by
    have h : (D.nr x && D.nrL xs) = true := h
    rw [Bool.and_eq_true] at h
    show (D.nr x && D.nrL (xs ++ ys)) = true
    rw [h.1, nrL_app h.2 q]
    rfl
theorem any_zip {ks : List Key} {xs : List D} {vs : List V} (k : Key) : xs.length = vs.length → ((ks.zip xs).any fun p => decide (p.1 = k)) = (ks.zip vs).any fun p => decide (p.1 = k) := by
  intro h
  induction ks generalizing xs vs with
  | nil => rfl
  | cons y ks ih =>
    cases xs with
    | nil =>
      cases vs with
      | nil => rfl
      | cons _ _ => cases h
    | cons x xs =>
      cases vs with
      | nil => cases h
      | cons v vs =>
        rw [List.zip_cons_cons, List.zip_cons_cons, List.any_cons, List.any_cons, ih (by simpa using h)]
theorem put_ok (cx : CxOk g ct W X) {o i d : D} {ov iv v : V} {μ μ' : Store} {R F : Hp} {m : List Addr} {H : Hp} {Q : Hp → Prop} (h : putC μ o i d = some μ') (so : SOk g.B R F m μ H) (ro : Rep g.B F m o ov) (ri : Rep g.B F m i iv) (rd : Rep g.B F m d v)
    (q : ∀ H', SOk g.B R F m μ' H' → Q H') : SSet X ov iv v H Q := by
  unfold putC at h
  split at h
  · rename_i kk
    obtain ⟨ad, ead, rfl⟩ := ro
    split at h
    · rename_i hnr
      split at h
      · rename_i xs n hk
        have ri : iv = .int n := ri
        subst ri
        obtain ⟨hF, oo, hH, ws, rfl, rr⟩ := so.live hk ead fun _ => nofun
        cases ej : ixN xs.length n with
        | none =>
          rw [ej] at h
          cases h
        | some jj =>
          rw [ej] at h
          have h := Option.some.inj h
          subst h
          exact SSet.of set_list ⟨ad, ws, n, jj, rfl, rfl, hH, by rw [← rr.length]; exact ej, q _ (so.put ead hF ⟨_, rfl, RepL.set rd jj rr⟩ (Sg.D.nrL_set hnr jj (so.nr _ _ hk)))⟩
      · rename_i xs n hk
        have ri : iv = .int n := ri
        subst ri
        obtain ⟨hF, oo, hH, ws, rfl, rr⟩ := so.live hk ead fun _ => nofun
        cases ej : ixN xs.length n with
        | none =>
          rw [ej] at h
          cases h
        | some jj =>
          rw [ej] at h
          have h := Option.some.inj h
          subst h
          exact SSet.of set_list ⟨ad, ws, n, jj, rfl, rfl, hH, by rw [← rr.length]; exact ej, q _ (so.put ead hF ⟨_, rfl, RepL.set rd jj rr⟩ (Sg.D.nrL_set hnr jj (so.nr _ _ hk)))⟩
      · rename_i ks xs hk
        obtain ⟨hF, oo, hH, ws, rfl, hl, rr⟩ := so.live hk ead fun _ => nofun
        obtain ⟨y, ek, h⟩ := Option.bind_eq_some_iff.mp h
        have h : (if ks.length < sizeLine then some (μ.set kk (if (ks.zip xs).any (fun p => decide (p.1 = y)) then .dct ks (dPutX ks xs y d) else .dct (ks ++ [y]) (xs ++ [d]))) else none) = some μ' := h
        split at h
        · rename_i hsz
          have h := Option.some.inj h
          subst h
          have eiv := keyD_ok ek ri
          subst eiv
          have hzl : (ks.zip ws).length = ks.length := by rw [List.length_zip, ← hl, Nat.min_self]
          intro pins s σ ov iv' u I r1 r2 r3
          cases (show ov = Value.ref ad from r1)
          refine d_setItem (by have := cx.room.units; omega) I (DPut.k (k := y) (v := v) hH (by rw [hzl]; exact hsz)) r2 r3 fun s' I' => ⟨_, I', ?_⟩
          refine q _ ?_
          have ea := any_zip (ks := ks) y rr.length
          unfold putK
          rw [← ea]
          cases ec : (ks.zip xs).any fun p => decide (p.1 = y) with
          | true =>
            obtain ⟨q1, q2, q3⟩ := zip_put y hl rr rd
            simp only [if_true]
            rw [q1]
            exact so.put ead hF ⟨_, rfl, q3, q2⟩ (nrL_put hnr y (so.nr _ _ hk))
          | false =>
            simp only [Bool.false_eq_true, if_false]
            have ez : ks.zip ws ++ [(y, v)] = (ks ++ [y]).zip (ws ++ [v]) := by rw [List.zip_append hl]; rfl
            rw [ez]
            refine so.put ead hF ⟨ws ++ [v], rfl, by simp [hl], rr.append (RepL.one rd)⟩ (nrL_app (so.nr _ _ hk) ?_)
            show (D.nr d && true) = true
            rw [hnr]
            rfl
        · cases h
      · cases h
    · cases h
  · cases h
theorem js_put (cx : CxOk g ct W X) {o y v : Expr} {k : Nat} {i e : E} {pos p2 : Pos} (hs : notSlice y = true) (hn : notComp v = true) (ho : JE g W X o (evalE T (.raw k))) (hi : JE g W X y (evalE T i)) (he : JE g W X v (evalE T e)) :
    JS g W X (.Assign [.Subscript o y p2] v pos) (execS T (.put k i e)) := by
  intro ρ μ r h R F m σ H D so ro po pins s I
  simp only [execS] at h
  have hasg : ∀ u, assign (.Subscript o y p2) X.env u = (do
      let ov ← holding [u] (eval o X.env)
      let iv ← holding [u, ov] (eval y X.env)
      standAt p2
      holding [u, ov, iv] (setItem ov iv u)
      release [u, ov, iv] []) := by
    intro u
    cases y <;> first | rfl | cases hs
  have hone : (assignEach [Expr.Subscript o y p2] X.env).map (·.2) = [assign (.Subscript o y p2) X.env] := rfl
  refine (ps_asg (pe_se X v) (pg_sub (pe_se X o) (pe_se X y) (set_sset X) hasg) (swaps_tg hn) (by cases v <;> rfl) hone).run pins s σ H D I ?_
  obtain ⟨ra, ea, pa⟩ := andS_post h ro po (Ka := QE g fun z H1 => SE X o σ H1 fun a H2 => SE X y σ H2 fun n H3 => SSet X a n z H3 fun H4 => D.nx σ H4) fun d μ1 e1 h1 F1 m1 H1 gr1 so1 z rz => by
    obtain ⟨rb, eb, pb⟩ := andS_post h1 (ro.mono gr1) (po.grow gr1) (Ka := QE g fun a H2 => SE X y σ H2 fun n H3 => SSet X a n z H3 fun H4 => D.nx σ H4) fun d2 μ2 e2 h2 F2 m2 H2 gr2 so2 a ra => by
      obtain ⟨rc, ec, pc⟩ := andS_post h2 (ro.mono (gr1.trans gr2)) (po.grow (gr1.trans gr2)) (Ka := QE g fun n H3 => SSet X a n z H3 fun H4 => D.nx σ H4) fun d3 μ3 e3 h3 F3 m3 H3 gr3 so3 n rn => by
        cases ep : putC μ3 d2 d3 d with
        | none =>
          rw [ep] at h3
          cases h3
        | some μ4 =>
          rw [ep] at h3
          have h3 := Option.some.inj h3
          subst h3
          have gr := (gr1.trans gr2).trans gr3
          exact put_ok cx ep so3 (Rep.mono gr3 _ _ ra) rn (Rep.mono (gr2.trans gr3) _ _ rz) fun H4 so4 => po F3 m3 σ H4 gr so4 (ro.mono gr)
      exact hi ρ μ2 rc ec R F2 m2 σ H2 _ so2 (ro.mono (gr1.trans gr2)) pc
    exact ho ρ μ1 rb eb R F1 m1 σ H1 _ so1 (ro.mono gr1) pb
  exact he ρ μ ra ea R F m σ H _ so ro pa
theorem putF_set {x : Str} {y : V} : ∀ {ns : List Str} {vs : List V} {i : Nat}, ns.idxOf? x = some i → i < vs.length → putF x y (ns.zip vs) = ns.zip (vs.set i y)
  | [], _, _, h, _ => by cases h
  | n :: ns, [], _, _, h => by simp at h
  | n :: ns, v :: vs, i, h, hl => by
    rw [List.idxOf?_cons] at h
    by_cases q : n = x
    · subst q
      simp at h
      subst h
      simp [putF, List.zip_cons_cons]
    · have qb : (n == x) = false := beq_eq_false_iff_ne.mpr q
      rw [qb] at h
      simp only [Bool.false_eq_true, if_false] at h
      obtain ⟨j, hj, rfl⟩ := Option.map_eq_some_iff.mp h
      rw [List.zip_cons_cons, List.set_cons_succ, List.zip_cons_cons, ← putF_set (y := y) hj (by simpa using hl)]
      simp [putF, q]
theorem putF_new {x : Str} {y : V} : ∀ {ns : List Str} {vs : List V} {i : Nat}, ns.idxOf? x = some i → i = vs.length → putF x y (ns.zip vs) = ns.zip (vs ++ [y])
  | [], _, _, h, _ => by cases h
  | n :: ns, [], i, h, hl => by
    subst hl
    rw [List.idxOf?_cons] at h
    by_cases q : n = x
    · subst q
      simp [putF]
    · have qb : (n == x) = false := beq_eq_false_iff_ne.mpr q
      rw [qb] at h
      simp only [Bool.false_eq_true, if_false] at h
      obtain ⟨j, hj, e⟩ := Option.map_eq_some_iff.mp h
      cases e
  | n :: ns, v :: vs, i, h, hl => by
    rw [List.idxOf?_cons] at h
    by_cases q : n = x
    · subst q
      simp at h
      subst h
      cases hl
    · have qb : (n == x) = false := beq_eq_false_iff_ne.mpr q
      rw [qb] at h
      simp only [Bool.false_eq_true, if_false] at h
      obtain ⟨j, hj, rfl⟩ := Option.map_eq_some_iff.mp h
      rw [List.zip_cons_cons, List.cons_append, List.zip_cons_cons, ← putF_new (y := y) hj (by simpa using hl)]
      simp [putF, q]
theorem idx_lt {x : Str} : ∀ {ns : List Str} {i : Nat}, ns.idxOf? x = some i → i < ns.length
  | [], _, h => by cases h
  | n :: ns, i, h => by
    rw [List.idxOf?_cons] at h
    by_cases q : n = x
    · subst q
      simp at h
      subst h
      exact Nat.succ_pos _
    · have qb : (n == x) = false := beq_eq_false_iff_ne.mpr q
      rw [qb] at h
      simp only [Bool.false_eq_true, if_false] at h
      obtain ⟨j, hj, rfl⟩ := Option.map_eq_some_iff.mp h
      exact Nat.succ_lt_succ (idx_lt hj)
theorem js_fld (cx : CxOk g ct W X) (fo : FnsOk g T ct.nm) {o v : Expr} {nm : Str} {k : Nat} {e : E} {pos p2 : Pos} (hn : notComp v = true) (ho : JE g W X o (evalE T (.raw k))) (he : JE g W X v (evalE T e)) :
    JS g W X (.Assign [.Attribute o nm p2] v pos) (execS T (.fld k nm e)) := by
  intro ρ μ r h R F m σ H D so ro po pins s I
  simp only [execS] at h
  refine (ps_fld (pe_se X o) (pe_se X v) (by cases v <;> first | rfl | cases hn)).run pins s σ H D I ?_
  obtain ⟨ra, ea, pa⟩ := andS_post h ro po (Ka := QE g fun y H1 => SE X o σ H1 fun x H2 => ∃ a C dx fs, x = .ref a ∧ H2 a = some (.ins C dx fs) ∧ L2.Cls X.K C ∧ NoAttr X.K C nm ∧ fs.length < 1000 ∧ D.nx σ (upd H2 a (.ins C dx (putF nm y fs)))) fun d μ1 e1 h1 F1 m1 H1 gr1 so1 y ry => by
    obtain ⟨rb, eb, pb⟩ := andS_post h1 (ro.mono gr1) (po.grow gr1) (Ka := QE g fun x H2 => ∃ a C dx fs, x = .ref a ∧ H2 a = some (.ins C dx fs) ∧ L2.Cls X.K C ∧ NoAttr X.K C nm ∧ fs.length < 1000 ∧ D.nx σ (upd H2 a (.ins C dx (putF nm y fs)))) fun d2 μ2 e2 h2 F2 m2 H2 gr2 so2 x rx => by
      have gr := gr1.trans gr2
      have ry2 := Rep.mono gr2 _ _ ry
      cases ep : fldC T μ2 d2 nm d with
      | none =>
        rw [ep] at h2
        cases h2
      | some μ4 =>
        rw [ep] at h2
        have h2 := Option.some.inj h2
        subst h2
        unfold fldC at ep
        split at ep
        · rename_i kk
          obtain ⟨ad, ead, rfl⟩ := rx
          split at ep
          · rename_i hnr
            split at ep
            · rename_i c fs hk
              obtain ⟨cl, ecl, ep⟩ := Option.bind_eq_some_iff.mp ep
              obtain ⟨i, ei, ep⟩ := Option.bind_eq_some_iff.mp ep
              obtain ⟨C', hC', ok⟩ := fo.cl c cl ecl
              obtain ⟨hF, oo, hH, C, dx, ns, vs, rfl, hc, hl, rr⟩ := so2.live hk ead fun _ => nofun
              rw [hC'] at hc
              cases hc
              have hlv := rr.length
              have hz : (cl.fs.zip vs).length < 1000 := by
                have := ok.ln
                rw [List.length_zip]
                omega
              refine ⟨ad, C', dx, _, rfl, hH, by rw [cx.K]; exact ok.cls, by rw [cx.K]; exact ok.no nm (idx_mem ei), hz, ?_⟩
              have hlt := idx_lt ei
              split at ep
              · rename_i hi
                have ep := Option.some.inj ep
                subst ep
                rw [putF_set ei (by omega)]
                exact po F2 m2 σ _ gr (so2.put ead hF ⟨C', dx, cl.fs, _, rfl, hC', by rw [List.length_set]; exact hl, RepL.set ry2 i rr⟩ (Sg.D.nrL_set hnr i (so2.nr _ _ hk))) (ro.mono gr)
              · split at ep
                · rename_i hi
                  have ep := Option.some.inj ep
                  subst ep
                  rw [putF_new ei (by omega)]
                  refine po F2 m2 σ _ gr (so2.put ead hF ⟨C', dx, cl.fs, vs ++ [y], rfl, hC', ?_, rr.append (RepL.one ry2)⟩ (nrL_app (so2.nr _ _ hk) ?_)) (ro.mono gr)
                  · rw [List.length_append]
                    have : [d].length = 1 := rfl
                    omega
                  · show (Sg.D.nr d && true) = true
                    rw [hnr]
                    rfl
                · cases ep
            · cases ep
          · cases ep
        · cases ep
    exact ho ρ μ1 rb eb R F1 m1 σ H1 _ so1 (ro.mono gr1) pb
  exact he ρ μ ra ea R F m σ H _ so ro pa
theorem app_live {μ μ' : Store} {d : D} {ds : List D} (h : appC μ d ds = some μ') : ∃ k xs, d = .ref k ∧ μ[k]? = some (.own xs) ∧ D.nrL ds = true ∧ xs.length + ds.length ≤ sizeLine ∧ μ' = μ.set k (.own (xs ++ ds)) := by
  unfold appC at h
  split at h
  · split at h
    · rename_i hk
      split at h
      · rename_i hc
        exact ⟨_, _, rfl, hk, hc.1, hc.2, (Option.some.inj h).symm⟩
      · cases h
    · cases h
  · cases h
theorem few1 {y : Expr} {pos : Pos} {env : Env} (h : notStar y = true) : (((backTo pos (starEach [y] env)).all fun x => !x.fst) && ((backToKw pos (keywordEach [] env)).all fun x => x.fst.isSome) && decide ([y].length + ([] : List Keyword).length + (if ([] : List Keyword).isEmpty = true then 0 else 1) < 30)) = true := by
  rw [star_cons h]
  rfl
theorem js_app (cx : CxOk g ct W X) {o y : Expr} {k : Nat} {e : E} {apos pos p2 : Pos} (hs : notSuper o = true) (hl : (apos.endLine == pos.line) = true) (hy : notStar y = true) (ho : JE g W X o (evalE T (.raw k))) (he : JE g W X y (evalE T e)) :
    JS g W X (.Expr (.Call (.Attribute o "append" apos) [y] [] pos) p2) (execS T (.app k e)) := by
  intro ρ μ r h R F m σ H D so ro po pins s I
  simp only [execS] at h
  refine (ps_expr (pe_bm PySem.F.plainAttrs_list PySem.F.slot_list_append PySem.F.type_list_append (r := rAppend) mt_append (pe_se X o) (pa_cons (pe_se X y) pa_nil (star_cons hy _ _)) (base_of hs) (few1 hy) hl (star_cons hy _ _) rfl) (swaps_e rfl)).run pins s σ H D I ?_
  obtain ⟨ra, ea, pa⟩ := andS_post h ro po (Ka := QE g fun x H1 => tyV X.K "list" x H1 ∧ SE X y σ H1 fun z H2 => rAppend x [z] H2 fun _ H3 => D.nx σ H3) fun d μ1 e1 h1 F1 m1 H1 gr1 so1 x rx => by
    split at h1
    · rename_i hsome
      obtain ⟨μ0, h0⟩ := Option.isSome_iff_exists.mp hsome
      obtain ⟨kk, xs, rfl, hk, _⟩ := app_live h0
      obtain ⟨ad, ead, rfl⟩ := id rx
      obtain ⟨hF, oo, hH, ws, rfl, rr⟩ := so1.live hk ead fun _ => nofun
      refine ⟨?_, ?_⟩
      · exact .inl ⟨rfl, ws, SqL.of hH⟩
      obtain ⟨rb, eb, pb⟩ := andS_post h1 (ro.mono gr1) (po.grow gr1) (Ka := QE g fun z H2 => rAppend (.ref ad) [z] H2 fun _ H3 => D.nx σ H3) fun d2 μ2 e2 h2 F2 m2 H2 gr2 so2 z rz => by
        have gr := gr1.trans gr2
        cases ep : appC μ2 (.ref kk) [d2] with
        | none =>
          rw [ep] at h2
          cases h2
        | some μ4 =>
          rw [ep] at h2
          have h2 := Option.some.inj h2
          subst h2
          obtain ⟨k3, xs3, e3, hk3, n3, l3, rfl⟩ := app_live ep
          cases e3
          have ead2 := gr2.pre _ _ ead
          obtain ⟨hF2, o2, hH2, ws2, rfl, rr2⟩ := so2.live hk3 ead2 fun _ => nofun
          have l3 : xs3.length + 1 ≤ sizeLine := l3
          refine ⟨ad, ws2, z, rfl, rfl, hH2, by rw [← rr2.length]; omega, ?_⟩
          exact po F2 m2 σ _ gr (so2.put ead2 hF2 ⟨_, rfl, rr2.append (RepL.one rz)⟩ (nrL_app (so2.nr _ _ hk3) n3)) (ro.mono gr)
      exact he ρ μ1 rb eb R F1 m1 σ H1 _ so1 (ro.mono gr1) pb
    · cases h1
  exact ho ρ μ ra ea R F m σ H _ so ro pa
theorem js_ext (cx : CxOk g ct W X) {o y : Expr} {k : Nat} {e : E} {apos pos p2 : Pos} (hs : notSuper o = true) (hl : (apos.endLine == pos.line) = true) (hy : notStar y = true) (ho : JE g W X o (evalE T (.raw k))) (he : JE g W X y (evalE T e)) :
    JS g W X (.Expr (.Call (.Attribute o "extend" apos) [y] [] pos) p2) (execS T (.ext k e)) := by
  intro ρ μ r h R F m σ H D so ro po pins s I
  simp only [execS] at h
  refine (ps_expr (pe_bm PySem.F.plainAttrs_list PySem.F.slot_list_extend PySem.F.type_list_extend (r := rExtend) mt_extend (pe_se X o) (pa_cons (pe_se X y) pa_nil (star_cons hy _ _)) (base_of hs) (few1 hy) hl (star_cons hy _ _) rfl) (swaps_e rfl)).run pins s σ H D I ?_
  obtain ⟨ra, ea, pa⟩ := andS_post h ro po (Ka := QE g fun x H1 => tyV X.K "list" x H1 ∧ SE X y σ H1 fun z H2 => rExtend x [z] H2 fun _ H3 => D.nx σ H3) fun d μ1 e1 h1 F1 m1 H1 gr1 so1 x rx => by
    split at h1
    · rename_i hsome
      obtain ⟨μ0, h0⟩ := Option.isSome_iff_exists.mp hsome
      obtain ⟨kk, xs, rfl, hk, _⟩ := app_live h0
      obtain ⟨ad, ead, rfl⟩ := id rx
      obtain ⟨hF, oo, hH, ws, rfl, rr⟩ := so1.live hk ead fun _ => nofun
      refine ⟨?_, ?_⟩
      · exact .inl ⟨rfl, ws, SqL.of hH⟩
      obtain ⟨rb, eb, pb⟩ := andS_post h1 (ro.mono gr1) (po.grow gr1) (Ka := QE g fun z H2 => rExtend (.ref ad) [z] H2 fun _ H3 => D.nx σ H3) fun d2 μ2 e2 h2 F2 m2 H2 gr2 so2 z rz => by
        have gr := gr1.trans gr2
        split at h2
        · rename_i ds
          cases ep : appC μ2 (.ref kk) ds with
          | none =>
            rw [ep] at h2
            cases h2
          | some μ4 =>
            rw [ep] at h2
            have h2 := Option.some.inj h2
            subst h2
            obtain ⟨k3, xs3, e3, hk3, n3, l3, rfl⟩ := app_live ep
            cases e3
            have ead2 := gr2.pre _ _ ead
            obtain ⟨hF2, o2, hH2, ws2, rfl, rr2⟩ := so2.live hk3 ead2 fun _ => nofun
            obtain ⟨b, zs, rfl, hb, rz⟩ := rz
            refine ⟨ad, b, ws2, zs, rfl, rfl, hH2, so2.sub _ _ hb, by rw [← rr2.length, ← rz.length]; exact l3, ?_⟩
            exact po F2 m2 σ _ gr (so2.put ead2 hF2 ⟨_, rfl, rr2.append rz⟩ (nrL_app (so2.nr _ _ hk3) n3)) (ro.mono gr)
        · cases h2
      exact he ρ μ1 rb eb R F1 m1 σ H1 _ so1 (ro.mono gr1) pb
    · cases h1
  exact ho ρ μ ra ea R F m σ H _ so ro pa
theorem js_dead {st : Stmt} : JS g W X st (execS T .dead) := by
  intro ρ μ r h
  simp only [execS] at h
  cases h
theorem js_ife {c : Expr} {a b : List Stmt} {ic : B} {ia ib : List S} {pos : Pos} (hc : JT g W X c (evalT T ic)) (ha : JSs g W X a (execL T ia)) (hb : JSs g W X b (execL T ib)) : JS g W X (.If c a b pos) (execS T (.ife ic ia ib)) := by
  intro ρ μ r h R F m σ H D so ro po
  simp only [execS] at h
  refine SS.of (ps_if (pt_st X c) (pss_sss X a) (pss_sss X b)) ?_
  obtain ⟨rc, ec, pc⟩ := andS_post h ro po (Ka := fun F' m' H' k => if k = true then SSs X a D σ H' else SSs X b D σ H') fun k μ1 e1 h1 F1 m1 H1 gr1 so1 => by
    cases k with
    | true => exact iteT (ha ρ μ1 r h1 R F1 m1 σ H1 D so1 (ro.mono gr1) (po.grow gr1))
    | false => exact iteF (hb ρ μ1 r h1 R F1 m1 σ H1 D so1 (ro.mono gr1) (po.grow gr1))
  exact hc ρ μ rc ec R F m σ H _ so ro pc
theorem js_ret {v : Expr} {e : E} {pos : Pos} (he : JE g W X v (evalE T e)) : JS g W X (.Return (some v) pos) (execS T (.ret e)) := by
  intro ρ μ r h R F m σ H D so ro po
  simp only [execS] at h
  refine SS.of (ps_ret (pe_se X v)) ?_
  obtain ⟨ra, ea, pa⟩ := andS_post h ro po (Ka := QE g D.rt) fun d μ1 e1 h1 F1 m1 H1 gr1 so1 z rz => by
    have h1 := Option.some.inj h1
    subst h1
    exact po F1 m1 σ H1 gr1 so1 (ro.mono gr1) z rz
  exact he ρ μ ra ea R F m σ H _ so ro pa
theorem js_retN {pos : Pos} : JS g W X (.Return none pos) (execS T .retN) := by
  intro ρ μ r h R F m σ H D so ro po
  simp only [execS] at h
  have h := Option.some.inj h
  subst h
  exact SS.of ps_retN (po F m σ H (Grow.refl _ _) so ro .non rfl)
theorem js_retS {xs : List Expr} {es : List E} {pos p2 : Pos} (ha : JA g W X xs (evalL T es)) : JS g W X (.Return (some (.List xs p2)) pos) (execS T (.retS es)) := by
  intro ρ μ r h R F m σ H D so ro po
  simp only [execS] at h
  refine SS.of (ps_ret (pe_lst (pa_sa X xs))) ?_
  obtain ⟨ra, ea, pa⟩ := andS_post h ro po (Ka := fun F' m' H' ds => ∀ vs, RepL g.B F' m' ds vs → vs.length ≤ sizeLine ∧ ∀ p, H' p = none → D.rt (.ref p) (upd H' p (.lst vs))) fun ds μ1 e1 h1 F1 m1 H1 gr1 so1 vs rv => by
    split at h1
    · rename_i hl
      have h1 := Option.some.inj h1
      subst h1
      refine ⟨by rw [← rv.length]; exact hl.1, fun p hp => ?_⟩
      obtain ⟨gr2, so2⟩ := so1.newLive (c := .shr ds) hp ⟨vs, rfl, rv⟩ hl.2
      refine po F1 (m1 ++ [p]) σ _ (gr1.trans gr2) so2 (ro.mono (gr1.trans gr2)) (.ref p) ⟨p, ?_, rfl⟩
      rw [← so1.len, List.getElem?_append_right (Nat.le_refl _), Nat.sub_self]
      rfl
    · cases h1
  exact ha ρ μ ra ea R F m σ H _ so ro pa
theorem js_expr {v : Expr} {e : E} {pos : Pos} (hn : notComp v = true) (he : JE g W X v (evalE T e)) : JS g W X (.Expr v pos) (execS T (.expr e)) := by
  intro ρ μ r h R F m σ H D so ro po
  simp only [execS] at h
  refine SS.of (ps_expr (pe_se X v) (swaps_e hn)) ?_
  obtain ⟨ra, ea, pa⟩ := andS_post h ro po (Ka := QE g fun _ H1 => D.nx σ H1) fun d μ1 e1 h1 F1 m1 H1 gr1 so1 z rz => by
    have h1 := Option.some.inj h1
    subst h1
    exact po F1 m1 σ H1 gr1 so1 (ro.mono gr1)
  exact he ρ μ ra ea R F m σ H _ so ro pa
theorem js_next {st : Stmt} {s : S} (hp : PS X st tNext) (hs : ∀ ρ μ, execS T s ρ μ = some (.next, ρ, μ)) : JS g W X st (execS T s) := by
  intro ρ μ r h R F m σ H D so ro po
  rw [hs] at h
  have h := Option.some.inj h
  subst h
  exact SS.of hp (po F m σ H (Grow.refl _ _) so ro)
theorem js_brk {pos : Pos} : JS g W X (.Break pos) (execS T .brk) := by
  intro ρ μ r h R F m σ H D so ro po
  simp only [execS] at h
  have h := Option.some.inj h
  subst h
  exact SS.of ps_break (po F m σ H (Grow.refl _ _) so ro)
theorem js_cont {pos : Pos} : JS g W X (.Continue pos) (execS T .cont) := by
  intro ρ μ r h R F m σ H D so ro po
  simp only [execS] at h
  have h := Option.some.inj h
  subst h
  exact SS.of ps_continue (po F m σ H (Grow.refl _ _) so ro)
theorem jss_nil : JSs g W X [] (execL T []) := by
  intro ρ μ r h R F m σ H D so ro po
  simp only [execL] at h
  have h := Option.some.inj h
  subst h
  exact SSs.of pss_nil (po F m σ H (Grow.refl _ _) so ro)
theorem jss_cons {st : Stmt} {sts : List Stmt} {s : S} {ss : List S} (h1 : JS g W X st (execS T s)) (h2 : JSs g W X sts (execL T ss)) : JSs g W X (st :: sts) (execL T (s :: ss)) := by
  intro ρ μ r h R F m σ H D so ro po
  simp only [execL] at h
  refine SSs.of (pss_cons (ps_ss X st) (pss_sss X sts)) ?_
  cases e : execS T s ρ μ with
  | none =>
    rw [e] at h
    cases h
  | some r1 =>
    rw [e] at h
    obtain ⟨f1, ρ1, μ1⟩ := r1
    refine h1 ρ μ _ e R F m σ H _ so ro fun F' m' σ' H' gr so' ro' => ?_
    cases f1 with
    | next => exact h2 ρ1 μ1 r h R F' m' σ' H' D so' ro' (po.grow gr)
    | brk =>
      have h := Option.some.inj h
      subst h
      exact po F' m' σ' H' gr so' ro'
    | cont =>
      have h := Option.some.inj h
      subst h
      exact po F' m' σ' H' gr so' ro'
    | ret d =>
      have h := Option.some.inj h
      subst h
      exact po F' m' σ' H' gr so' ro'
    | exc x =>
      have h := Option.some.inj h
      subst h
      exact po F' m' σ' H' gr so' ro'
theorem forM_cons {b : D → Rho → Option Rho} {f : Rho → Store → Option (Fl × Rho × Store)} {x : D} {r : List D} {ρ : Rho} {μ : Store} {z : Fl × Rho × Store} (h : forM b f (x :: r) ρ μ = some z) :
    ∃ ρ1 fl ρ2 μ2, b x ρ = some ρ1 ∧ f ρ1 μ = some (fl, ρ2, μ2) ∧ (match fl with
      | .next => forM b f r ρ2 μ2 = some z
      | .cont => forM b f r ρ2 μ2 = some z
      | .brk => z = (.next, ρ2, μ2)
      | .ret d => z = (.ret d, ρ2, μ2)
      | .exc x => z = (.exc x, ρ2, μ2)) := by
  simp only [forM] at h
  cases eb : b x ρ with
  | none =>
    rw [eb] at h
    cases h
  | some ρ1 =>
    rw [eb] at h
    cases ef : f ρ1 μ with
    | none =>
      simp only [ef] at h
      cases h
    | some q =>
      obtain ⟨fl, ρ2, μ2⟩ := q
      simp only [ef] at h
      refine ⟨ρ1, fl, ρ2, μ2, rfl, ef, ?_⟩
      cases fl with
      | next => exact h
      | cont => exact h
      | brk => exact (Option.some.inj h).symm
      | ret d => exact (Option.some.inj h).symm
      | exc x => exact (Option.some.inj h).symm
theorem js_for (cx : CxOk g ct W X) {t i : Expr} {body : List Stmt} {tg : Tg} {it : I} {ib : List S} {pos : Pos} (hns : notSet i = true) (ht : chkTg ct tg t = true) (hi : JI g W X t i (evalI T it)) (hb : JSs g W X body (execL T ib)) : JS g W X (.For t i body [] pos) (execS T (.for tg it ib)) := by
  intro ρ μ r h R F m σ H D so ro po
  simp only [execS] at h
  refine SS.of (ps_for cx.pas cx.calm (pi_si X t i) (pg_sg X t) (pss_sss X body) (set_of hns)) ?_
  obtain ⟨ri, ei, pi⟩ := andS_post h ro po (Ka := fun F1 m1 H1 ds => ∀ J, WalkD g.B F1 m1 J ds → ∃ W : Nat → Nat → St → Hp → Prop, (∃ m, W 0 m σ H1) ∧ ∀ i m σ H, W i m σ H →
      (J.stop i H ∧ D.nx σ H) ∨ (J.go i H ∧ ∃ N : St → Hp → Prop, (∀ σ' H', N σ' H' → ∃ m', m' < m ∧ W (i + 1) m' σ' H') ∧ ∀ x H', J.yld i H x H' → SG X t x σ H' fun σ2 H2 => SSs X body { D with nx := N, ct := N, bk := D.nx } σ2 H2)) fun ds μ1 e1 h1 F1 m1 H1 gr1 so1 J wk => by
    have po1 := po.grow gr1
    refine for_it wk (g := SG X t) (tb := SSs X body) (D := D) (fun n σn Hn => ∃ F2 m2 ρn μn, Grow F1 m1 F2 m2 ∧ SOk g.B R F2 m2 μn Hn ∧ ROk g.B F2 m2 ρn σn ∧ forM (fun d ρ => bindT tg d ρ) (fun ρ μ => execL T ib ρ μ) (ds.drop n) ρn μn = some r) ?_ ?_ ?_ ?_
    · exact ⟨F1, m1, ρ, μ1, Grow.refl _ _, so1, ro.mono gr1, h1⟩
    · rintro n σn Hn _ ⟨F2, m2, ρn, μn, gr2, so2, _⟩
      exact gr2.sub.trans so2.sub
    · rintro n x σn Hn Hx hn ⟨F2, m2, ρn, μn, gr2, so2, ro2, hR⟩ ⟨d, hd, yl⟩
      obtain ⟨F3, gr3, so3, rx⟩ := yl _ F2 m2 μn gr2 so2
      have edrop : ds.drop n = d :: ds.drop (n + 1) := by
        obtain ⟨hl, e⟩ := List.getElem?_eq_some_iff.mp hd
        rw [← e]
        exact List.drop_eq_getElem_cons hl
      rw [edrop] at hR
      obtain ⟨ρ1, fl, ρ2, μ2, b1, b2, b3⟩ := forM_cons hR
      refine tg_ok cx tg t ht d ρn ρ1 b1 R F3 m2 μn σn Hx x _ so3 (ro2.mono gr3) rx fun σ2 ro3 _ => ?_
      refine hb ρ1 μn _ b2 R F3 m2 σ2 Hx _ so3 ro3 fun F4 m4 σ4 H4 gr4 so4 ro4 => ?_
      have gr := (gr2.trans gr3).trans gr4
      cases fl with
      | next => exact ⟨F4, m4, ρ2, μ2, gr, so4, ro4, b3⟩
      | cont => exact ⟨F4, m4, ρ2, μ2, gr, so4, ro4, b3⟩
      | brk =>
        have b3 : r = _ := b3
        subst b3
        exact po1 F4 m4 σ4 H4 gr so4 ro4
      | ret d =>
        have b3 : r = _ := b3
        subst b3
        exact po1 F4 m4 σ4 H4 gr so4 ro4
      | exc x =>
        have b3 : r = _ := b3
        subst b3
        exact po1 F4 m4 σ4 H4 gr so4 ro4
    · rintro σn Hn ⟨F2, m2, ρn, μn, gr2, so2, ro2, hR⟩
      rw [List.drop_length] at hR
      have hR := Option.some.inj hR
      subst hR
      exact po1 F2 m2 σn Hn gr2 so2 ro2
  exact hi ρ μ ri ei R F m σ H _ so ro pi
theorem js_rai (cx : CxOk g ct W X) (fo : FnsOk g T ct.nm) {x : Str} {y : Expr} {c : Nat} {e : E} {p p2 p3 : Pos} (hg : chkG ct x = true) (hx : ct.nm.x.xns[c]? = some x) (hy : notStar y = true) (he : JE g W X y (evalE T e)) :
    JS g W X (.Raise (some (.Call (.Name x p) [y] [] p2)) none p3) (execS T (.rai c e)) := by
  intro ρ μ r h R F m σ H D so ro po
  simp only [execS] at h
  obtain ⟨g1, g2⟩ := chkG_of cx hg
  obtain ⟨k, hk⟩ := fo.xt.nm c x hx
  obtain ⟨x', C, hx', ok⟩ := fo.xt.xc c k hk
  rw [hx] at hx'
  cases hx'
  cases hat : k.att with
  | none =>
    rw [hk] at h
    have h : (if k.att.isSome = true then andS (evalE T e ρ) ρ (fun d μ' => some (Fl.exc ⟨c, [d]⟩, ρ, μ')) μ else none) = some r := h
    rw [hat] at h
    cases h
  | some f =>
    rw [hk] at h
    have h : (if k.att.isSome = true then andS (evalE T e ρ) ρ (fun d μ' => some (Fl.exc ⟨c, [d]⟩, ρ, μ')) μ else none) = some r := h
    rw [hat] at h
    have h : andS (evalE T e ρ) ρ (fun d μ' => some (Fl.exc ⟨c, [d]⟩, ρ, μ')) μ = some r := h
    obtain ⟨xf, hno, Bn, nI, iI, tl, fI, bs, ox, hi, ht, hF⟩ := ok.mk1 f hat
    have hr : Room (1 + 1) X.A := cx.room.mono (by have := fo.lv1; omega)
    refine SS.of (ps_raise cx.calm cx.tk (pmk_ox (k := 1) (f := f) (C := C) (fI := fI) bs (by rw [cx.K]; exact ox) (by rw [cx.K]; exact hi) (by rw [cx.K]; exact ht) (by rw [cx.prog, cx.w, cx.K, cx.mg, cx.base]; exact hF) hr g1 (by rw [cx.mg]; exact ok.mg) (pe_se X y) hy g2 (passes_call cx.tk fun _ _ _ _ z => z.elim))) ?_
    obtain ⟨ra, ea, pa⟩ := andS_post h ro po (Ka := QE g fun v H1 => ∃ v', [v] = [v'] ∧ ∀ dx, H1 dx = none → W (.ref C) (some dx) σ (upd H1 dx (.xd [(f, v')]))) fun d μ1 e1 h1 F1 m1 H1 gr1 so1 v rv => by
      have h1 := Option.some.inj h1
      subst h1
      refine ⟨v, rfl, fun dx hdx => ?_⟩
      obtain ⟨gr2, so2⟩ := so1.new (o := .xd [(f, v)]) hdx
      have gr := gr1.trans gr2
      refine po _ m1 σ _ gr so2 (ro.mono gr) (.ref C) (some dx) ⟨[f], ?_, .inr ⟨by simp, dx, [v], rfl, rfl, upd_same, RepL.mono gr2 _ _ (RepL.one rv)⟩⟩
      rw [ok.bk, hat]
      rfl
    exact he ρ μ ra ea R F m σ H _ so ro pa
theorem js_rai0 (cx : CxOk g ct W X) (fo : FnsOk g T ct.nm) {x y : Str} {c j : Nat} {p p1 p2 p3 : Pos} (hg : chkG ct x = true) (hx : ct.nm.x.xns[c]? = some x) :
    JS g W X (.Raise (some (.Call (.Name x p) [.Constant (.str y) j p1] [] p2)) none p3) (execS T (.rai0 c)) := by
  intro ρ μ r h R F m σ H D so ro po
  simp only [execS] at h
  obtain ⟨g1, g2⟩ := chkG_of cx hg
  obtain ⟨k, hk⟩ := fo.xt.nm c x hx
  obtain ⟨x', C, hx', ok⟩ := fo.xt.xc c k hk
  rw [hx] at hx'
  cases hx'
  rw [hk] at h
  have h : (if k.att.isNone = true then some (Fl.exc ⟨c, []⟩, ρ, μ) else none) = some r := h
  split at h
  · rename_i hat
    have hat : k.att = none := by simpa using hat
    have h := Option.some.inj h
    subst h
    obtain ⟨Bn, nI, iI, tl, bF, hin⟩ := ok.mk0 hat
    refine SS.of (ps_raise cx.calm cx.tk (pmk_own bF (by rw [cx.K]; exact hin) (by rw [cx.mg]; exact ok.mg) (by rw [cx.K]; exact ok.kp) (raises_own (by rw [cx.K]; exact ok.ex) (by rw [cx.K]; exact ok.ty)) g1 g2)) ?_
    refine po F m σ H (Grow.refl _ _) so ro (.ref C) none ⟨[], ?_, .inl ⟨rfl, rfl, rfl⟩⟩
    rw [ok.bk, hat]
    rfl
  · cases h
theorem CxOk.tr (cx : CxOk g ct W X) {W' : WX} {pn : List (Addr × Obj)} {xe : Value → Shared → Prop} (tk : Takes (X.tr pn xe) W') (pas : PassesOwn (model X.prog X.w) X.A X.env xe) : CxOk g ct W' (X.tr pn xe) :=
  ⟨cx.prog, cx.w, cx.K, cx.mg, cx.base, cx.N, cx.sc, cx.nd, cx.calm, cx.room, cx.gu, cx.fn, pas, tk, cx.top, cx.lam⟩
theorem js_tri (cx : CxOk g ct W X) (fo : FnsOk g T ct.nm) {b : List Stmt} {h0 : ExceptHandler} {hds : List ExceptHandler} {ib : List S} {hs : List Hd} {pos : Pos} (htop : ct.top = true) (hgd : ct.nm.gd = true) (hh : chkHds ct.nm.x ct.N ct.sc hs (h0 :: hds) = true)
    (hb : ∀ (W' : WX) (X' : Cx), CxOk g ct W' X' → JSs g W' X' b (execL T ib)) : JS g W X (.Try b (h0 :: hds) [] [] pos) (execS T (.tri ib hs)) := by
  intro ρ μ r h R F m σ H D so ro po
  simp only [execS] at h
  have un := cx.room.un
  have bo : BaseOk g T.x ct.nm.x X := ⟨cx.K, cx.mg, fo.xt, fo.blt, cx.gu (fo.gd hgd), by omega⟩
  obtain ⟨t1, t2⟩ := cx.top htop
  obtain ⟨l, hok, hq⟩ := cls_ex bo (hs := hs) (hds := h0 :: hds) (by rw [cx.N, cx.sc]; exact hh)
  refine SS.of (ps_cls (tb := fun W' D σ H => ∀ (pn : List (Addr × Obj)) (xe : Value → Shared → Prop), Takes (X.tr pn xe) W' → PassesOwn (model X.prog X.w) X.A X.env xe → SSs (X.tr pn xe) b D σ H) t1 t2 (by rw [cx.N]; exact cx.nd) cx.tk (fun W' pn xe tk pas => ⟨fun pins s σ H D I hh => hh pn xe tk pas pins s I⟩) hok) ?_
  intro pn xe tk pas
  cases e : execL T ib ρ μ with
  | none =>
    rw [e] at h
    cases h
  | some z =>
    rw [e] at h
    obtain ⟨fl, ρ1, μ1⟩ := z
    refine hb _ _ (cx.tr (takes_len tk) pas) ρ μ _ e R F m σ H D so ro fun F' m' σ' H' gr so' ro' => ?_
    cases fl with
    | next =>
      have h := Option.some.inj h
      subst h
      exact po F' m' σ' H' gr so' ro'
    | brk =>
      have h := Option.some.inj h
      subst h
      exact po F' m' σ' H' gr so' ro'
    | cont =>
      have h := Option.some.inj h
      subst h
      exact po F' m' σ' H' gr so' ro'
    | ret d =>
      have h := Option.some.inj h
      subst h
      exact po F' m' σ' H' gr so' ro'
    | exc x =>
      intro cls dx rx hlen
      have h : (match hdl T.x.xcs x hs with
        | some (some d) => some (Fl.ret d, ρ1, μ1)
        | some none => some (Fl.exc x, ρ1, μ1)
        | none => none) = some r := h
      refine hq x cls dx σ' H' R F' m' μ1 D.rt W so' rx hlen ?_
      unfold HdlQ
      split at h
      · rename_i d hd
        have h := Option.some.inj h
        subst h
        try rw [hd]
        exact fun F2 m2 H2 gr2 so2 v rv => po F2 m2 σ' H2 (gr.trans gr2) so2 (ro'.mono gr2) v rv
      · rename_i hd
        have h := Option.some.inj h
        subst h
        try rw [hd]
        exact po F' m' σ' H' gr so' ro' cls dx rx
      · cases h
/-! ### match -/
theorem loc_of (cx : CxOk g ct W X) {y : Str} (h : (match ct.sc.names.lookup y with
      | some .local => true
      | some .cell => ct.fn y
      | _ => false) = true) : L2.Loc X.env.scope y ∧ (X.fn y = true ∨ X.env.scope.names.lookup y = some .local) := by
  rw [cx.sc]
  unfold L2.Loc
  split at h
  · rename_i hl
    exact ⟨.inl hl, .inr hl⟩
  · rename_i hl
    exact ⟨.inr hl, .inl (cx.fn y h)⟩
  · cases h
def BRel (g : Gx) (X : Cx) (F : Hp) (m : List Addr) (p : Nat × D) (q : Str × Value) : Prop := X.N[p.1]? = some q.1 ∧ L2.Loc X.env.scope q.1 ∧ (X.fn q.1 = true ∨ X.env.scope.names.lookup q.1 = some .local) ∧ ∃ v, Rep g.B F m p.2 v ∧ RelV v q.2
def MRel (g : Gx) (X : Cx) (F : Hp) (m : List Addr) : Option (List (Nat × D)) → Option (List (Str × Value)) → Prop
  | none, r => r = none
  | some bs, r => ∃ nbs, r = some nbs ∧ Paired (BRel g X F m) bs nbs
theorem pair_app {α β : Type} {R : α → β → Prop} : ∀ {a : List α} {b : List β} {c : List α} {d : List β}, Paired R a b → Paired R c d → Paired R (a ++ c) (b ++ d)
  | _, _, _, _, .nil, q => q
  | _, _, _, _, .cons h r, q => .cons h (pair_app r q)
theorem lit_ok (cx : CxOk g ct W X) {x y : Str} {k : Nat} {p1 p2 : Pos} (hx : x = y) {d : D} {v : V} {u : Value} {b : Bool} (h : eqD d (.str x) = some b) {R F : Hp} {m : List Addr} {μ : Store} {H : Hp} {σ : L2.St} (so : SOk g.B R F m μ H) (rv : Rep g.B F m d v) (ru : RelV v u) {pins : List (Addr × Obj)} {s : Shared}
    (I : L2.Inv X pins σ H s) {Q : Option (List (Str × Value)) → Shared → Prop} (q : ∀ s', L2.Inv X pins σ H s' → Q (if b then some [] else none) s') : wpAny (model X.prog X.w) X.A (matchPattern (.MatchValue (.Constant (.str y) k p1) p2) X.env u) Q X.xe s := by
  subst hx
  refine wpAny_matchPattern_Value (thn ((pe_str (X := X)).run pins s σ H (fun z H1 => z = .str x ∧ H1 = H) I ⟨rfl, rfl⟩) fun w s1 ⟨z, H1, I1, rz, ez, eH⟩ => ?_)
  subst ez
  rw [eH] at I1
  have hc : cmpD .Eq d (.str x) = some b := h
  refine thn (cmp_ok cx (Q := fun z H2 => z = .bl b ∧ H2 = H) hc so (rv.seen so.sub) rfl ⟨rfl, rfl⟩ pins s1 σ u w I1 ru rz) fun c s2 ⟨z, H2, I2, rc, ec, eH2⟩ => ?_
  subst ec
  rw [eH2] at I2
  cases rc
  refine wpAny_truthy_bool ?_
  have := q _ I2
  cases b <;> exact this
theorem mp1_ok (cx : CxOk g ct W X) {p : P1} {pat : Pattern} (hc : chkP1 ct p pat = true) {d : D} {v : V} {u : Value} {res : Option (List (Nat × D))} (h : mat1 p d = some res) {R F : Hp} {m : List Addr} {μ : Store} {H : Hp} {σ : L2.St} (so : SOk g.B R F m μ H) (rv : Rep g.B F m d v) (ru : RelV v u) {pins : List (Addr × Obj)} {s : Shared}
    (I : L2.Inv X pins σ H s) {Q : Option (List (Str × Value)) → Shared → Prop} (q : ∀ s' r, L2.Inv X pins σ H s' → MRel g X F m res r → Q r s') : wpAny (model X.prog X.w) X.A (matchPattern pat X.env u) Q X.xe s := by
  cases p with
  | lit x =>
    simp only [chkP1] at hc
    split at hc
    · have hc := of_decide_eq_true hc
      obtain ⟨b, hb, rfl⟩ := Option.map_eq_some_iff.mp h
      refine lit_ok cx hc hb so rv ru I fun s' I' => q s' _ I' ?_
      cases b with
      | true => exact ⟨[], rfl, .nil⟩
      | false => exact rfl
    · cases hc
  | nm i =>
    simp only [chkP1] at hc
    split at hc
    · rename_i y pos
      rw [Bool.and_eq_true] at hc
      have h := Option.some.inj h
      subst h
      obtain ⟨l1, l2⟩ := loc_of cx hc.2
      exact wpAny_matchPattern_Capture (q s _ I ⟨[(y, u)], rfl, .cons ⟨by rw [cx.N]; exact of_decide_eq_true hc.1, l1, l2, v, rv, ru⟩ .nil⟩)
    · cases hc
  | wild =>
    simp only [chkP1] at hc
    split at hc
    · have h := Option.some.inj h
      subst h
      exact wpAny_matchPattern_Capture (q s _ I ⟨[], rfl, .nil⟩)
    · cases hc
theorem p1_star {p : P1} {pat : Pattern} (hc : chkP1 ct p pat = true) : pat.isStar = false := by
  cases p <;> (simp only [chkP1] at hc; split at hc <;> first | rfl | cases hc)
theorem ps_star : ∀ {ps : List P1} {qs : List Pattern}, chkPs ct ps qs = true → qs.findIdx? (·.isStar) = none ∧ qs.length = ps.length
  | [], [], _ => ⟨rfl, rfl⟩
  | [], _ :: _, h => by cases h
  | _ :: _, [], h => by cases h
  | p :: ps, q :: qs, h => by
    simp only [chkPs, Bool.and_eq_true] at h
    obtain ⟨h1, h2⟩ := h
    obtain ⟨i1, i2⟩ := ps_star h2
    refine ⟨?_, by rw [List.length_cons, List.length_cons, i2]⟩
    rw [List.findIdx?_cons, p1_star h1, i1]
    rfl
theorem me_ok (cx : CxOk g ct W X) : ∀ {ps : List P1} {qs : List Pattern}, chkPs ct ps qs = true → ∀ {ds : List D} {vs : List V} {us : List Value} {res : Option (List (Nat × D))}, matL ps ds = some res → ∀ {R F : Hp} {m : List Addr} {μ : Store} {H : Hp} {σ : L2.St}, SOk g.B R F m μ H → RepL g.B F m ds vs → Vals vs us →
    ∀ {pins : List (Addr × Obj)} {s : Shared}, L2.Inv X pins σ H s → ∀ {Q : Option (List (Str × Value)) → Shared → Prop}, (∀ s' r, L2.Inv X pins σ H s' → MRel g X F m res r → Q r s') → wpAny (model X.prog X.w) X.A (matchEach qs X.env us) Q X.xe s
  | [], [], _, [], vs, us, res, h, R, F, m, μ, H, σ, so, rv, ru, pins, s, I, Q, q => by
    have h := Option.some.inj h
    subst h
    exact wpAny_matchEach_nil (q s _ I ⟨[], rfl, .nil⟩)
  | [], [], _, _ :: _, vs, us, res, h, R, F, m, μ, H, σ, so, rv, ru, pins, s, I, Q, q => by cases h
  | [], _ :: _, hc, ds, vs, us, res, h, R, F, m, μ, H, σ, so, rv, ru, pins, s, I, Q, q => by cases hc
  | _ :: _, [], hc, ds, vs, us, res, h, R, F, m, μ, H, σ, so, rv, ru, pins, s, I, Q, q => by cases hc
  | p :: ps, pt :: qs, hc, [], vs, us, res, h, R, F, m, μ, H, σ, so, rv, ru, pins, s, I, Q, q => by cases h
  | p :: ps, pt :: qs, hc, d :: ds, vs, us, res, h, R, F, m, μ, H, σ, so, rv, ru, pins, s, I, Q, q => by
    simp only [chkPs, Bool.and_eq_true] at hc
    obtain ⟨h1, h2⟩ := hc
    obtain ⟨v, ws, rfl, r1, r2⟩ := rv
    cases ru with
    | @cons _ u0 _ us0 ru1 ru2 =>
      simp only [matL] at h
      cases e1 : mat1 p d with
      | none =>
        rw [e1] at h
        cases h
      | some res1 =>
        rw [e1] at h
        refine wpAny_matchEach_cons (mp1_ok cx h1 e1 so r1 ru1 I fun s1 r I1 hr => ?_) (p1_star h1)
        cases res1 with
        | none =>
          have hr : r = none := hr
          subst hr
          have h : some none = some res := h
          have h := Option.some.inj h
          subst h
          exact q s1 none I1 rfl
        | some bs =>
          obtain ⟨nbs, rfl, pr⟩ := hr
          have h : (match matL ps ds with
            | none => none
            | some none => some none
            | some (some cs) => some (some (bs ++ cs))) = some res := h
          cases e2 : matL ps ds with
          | none =>
            rw [e2] at h
            cases h
          | some res2 =>
            rw [e2] at h
            refine me_ok cx h2 e2 so r2 ru2 I1 fun s2 r' I2 hr' => ?_
            cases res2 with
            | none =>
              have hr' : r' = none := hr'
              subst hr'
              have h : some none = some res := h
              have h := Option.some.inj h
              subst h
              exact q s2 none I2 rfl
            | some cs =>
              obtain ⟨ncs, rfl, pr'⟩ := hr'
              have h : some (some (bs ++ cs)) = some res := h
              have h := Option.some.inj h
              subst h
              exact q s2 _ I2 ⟨nbs ++ ncs, rfl, pair_app pr pr'⟩
theorem mo_ok (cx : CxOk g ct W X) : ∀ {xs : List Str} {qs : List Pattern}, chkOr ct xs qs = true → ∀ {d : D} {v : V} {u : Value} {res : Option (List (Nat × D))}, matO xs d = some res → ∀ {R F : Hp} {m : List Addr} {μ : Store} {H : Hp} {σ : L2.St}, SOk g.B R F m μ H → Rep g.B F m d v → RelV v u →
    ∀ {pins : List (Addr × Obj)} {s : Shared}, L2.Inv X pins σ H s → ∀ {Q : Option (List (Str × Value)) → Shared → Prop}, (∀ s' r, L2.Inv X pins σ H s' → (res = none ∧ r = none ∨ res = some [] ∧ r = some []) → Q r s') → wpAny (model X.prog X.w) X.A (matchFirst qs X.env u) Q X.xe s
  | [], [], _, d, v, u, res, h, R, F, m, μ, H, σ, so, rv, ru, pins, s, I, Q, q => by
    have h := Option.some.inj h
    subst h
    exact wpAny_matchFirst_nil (q s _ I (.inl ⟨rfl, rfl⟩))
  | [], _ :: _, hc, d, v, u, res, h, R, F, m, μ, H, σ, so, rv, ru, pins, s, I, Q, q => by cases hc
  | _ :: _, [], hc, d, v, u, res, h, R, F, m, μ, H, σ, so, rv, ru, pins, s, I, Q, q => by cases hc
  | x :: xs, pt :: qs, hc, d, v, u, res, h, R, F, m, μ, H, σ, so, rv, ru, pins, s, I, Q, q => by
    simp only [chkOr, Bool.and_eq_true] at hc
    obtain ⟨h1, h2⟩ := hc
    simp only [chkP1] at h1
    split at h1
    · have h1 := of_decide_eq_true h1
      simp only [matO] at h
      cases e1 : eqD d (.str x) with
      | none =>
        rw [e1] at h
        cases h
      | some b =>
        rw [e1] at h
        refine wpAny_matchFirst_cons (lit_ok cx h1 e1 so rv ru I fun s1 I1 => ?_)
        cases b with
        | true =>
          have h := Option.some.inj h
          subst h
          exact q s1 _ I1 (.inr ⟨rfl, rfl⟩)
        | false => exact mo_ok cx h2 h so rv ru I1 q
    · cases h1
theorem or_names : ∀ {xs : List Str} {qs : List Pattern}, chkOr ct xs qs = true → namesOfAll (qs.take 1) = []
  | [], [], _ => rfl
  | [], _ :: _, h => by cases h
  | _ :: _, [], h => by cases h
  | x :: xs, q :: qs, h => by
    simp only [chkOr, Bool.and_eq_true] at h
    have h1 := h.1
    simp only [chkP1] at h1
    split at h1
    · rfl
    · cases h1
theorem mp_ok (cx : CxOk g ct W X) {p : Pt} {pat : Pattern} (hc : chkPt ct p pat = true) {d : D} {v : V} {u : Value} {res : Option (List (Nat × D))} (h : matP p d = some res) {R F : Hp} {m : List Addr} {μ : Store} {H : Hp} {σ : L2.St} (so : SOk g.B R F m μ H) (rv : Rep g.B F m d v) (ru : RelV v u) {pins : List (Addr × Obj)} {s : Shared}
    (I : L2.Inv X pins σ H s) {Q : Option (List (Str × Value)) → Shared → Prop} (q : ∀ s' r, L2.Inv X pins σ H s' → MRel g X F m res r → Q r s') : wpAny (model X.prog X.w) X.A (matchPattern pat X.env u) Q X.xe s := by
  cases p with
  | one p => exact mp1_ok cx hc h so rv ru I q
  | or xs =>
    simp only [chkPt] at hc
    split at hc
    · refine wpAny_matchPattern_Or (mo_ok cx hc h so rv ru I fun s1 r I1 hr => ?_)
      rcases hr with ⟨rfl, rfl⟩ | ⟨rfl, rfl⟩
      · exact q s1 none I1 rfl
      · show Q (some ((namesOfAll _).filterMap _)) s1
        rw [or_names hc]
        exact q s1 _ I1 ⟨[], rfl, .nil⟩
    · cases hc
  | seq ps =>
    simp only [chkPt] at hc
    split at hc
    · rename_i qs pos
      rw [Bool.and_eq_true, Bool.not_eq_true'] at hc
      obtain ⟨h1, h2⟩ := hc
      obtain ⟨st, sl⟩ := ps_star h1
      cases d with
      | tup ds =>
        obtain ⟨a, vs, rfl, hs, r⟩ := rv
        obtain rfl : u = Value.ref a := ru
        obtain ⟨its, rvs, ht, hz⟩ := I.tuple (xs := vs) (a := a) (cx.K ▸ seqT_mono so.sub hs)
        have hl : its.toArray.size = ds.length := by rw [List.size_toArray, ← rvs.length, r.length]
        have hfit : ((its.toArray.size : Nat) : Int) < 2 ^ 63 := by
          rw [List.size_toArray, ← rvs.length]
          have : sizeLine < 2 ^ 62 := by decide
          omega
        have h : (if ds.length = ps.length then matL ps ds else some none) = some res := h
        split at h
        · rename_i hn
          refine PyProof.Rows.matchSeq_tuple_hit ht hfit (by rw [hl, hn, sl]) ?_ st h2
          rw [show qs.length = its.toArray.size by rw [hl, hn, sl]]
          refine PyProof.Rows.unpackItems_tuple (I.ok.hd cx.calm) ht fun h' hx => ?_
          have I2 := I.kept (h' := h') (t' := s.toks + 1 + 1) fun b o e => hx b o (Nat.ne_of_lt (Heap.lt_size e)) e
          exact me_ok cx h1 h so r (by simpa using rvs) I2 q
        · rename_i hn
          have h := Option.some.inj h
          subst h
          exact PyProof.Rows.matchSeq_tuple_miss ht hfit (by rw [hl, sl]; exact hn) (q _ none (I.kept (t' := s.toks + 1 + 1) fun b o e => e) rfl) st h2
      | _ => cases h
    · cases hc
theorem binds_ok (cx : CxOk g ct W X) {F : Hp} {m : List Addr} {H : Hp} {pins : List (Addr × Obj)} : ∀ {bs : List (Nat × D)} {nbs : List (Str × Value)}, Paired (BRel g X F m) bs nbs → ∀ {ρ : Rho} {σ : L2.St} {s : Shared}, L2.Inv X pins σ H s → ROk g.B F m ρ σ → ∀ {Q : Unit → Shared → Prop}, (∀ σ' s', L2.Inv X pins σ' H s' → ROk g.B F m (bindsR bs ρ) σ' → Q () s') →
    wpAny (model X.prog X.w) X.A (assignInOrder (nbs.map fun (n, _) => bindName X.env n) (nbs.map (·.2))) Q X.xe s
  | [], [], .nil, ρ, σ, s, I, ro, Q, q => PyProof.Rows.assignInOrder_nil (q σ s I ro)
  | (i, d) :: bs, (n, u) :: nbs, .cons h r, ρ, σ, s, I, ro, Q, q => by
    obtain ⟨h1, h2, h3, v, rv, ru⟩ := h
    refine PyProof.Rows.assignInOrder_cons (wpAny_bindName (store_ok I (by rw [cx.N]; exact cx.nd) h1 h2 ru (fun s1 I1 => ?_) h3))
    exact binds_ok cx r I1 (ro.set i rv) q
def JC (g : Gx) (W : WX) (X : Cx) (cs : List MatchCase) (f : D → Rho → Store → Option (Fl × Rho × Store)) : Prop := ∀ d ρ μ r, f d ρ μ = some r → ∀ R F m σ H v (D : Ends), SOk g.B R F m μ H → ROk g.B F m ρ σ → Rep g.B F m d v → PostS g R W F m r D →
  ∀ (pins : List (Addr × Obj)) (s : Shared) (u : Value) (b : Bool), L2.Inv X pins σ H s → RelV v u → wpAny (model X.prog X.w) X.A (matchCases cs X.env u b) (SP X pins D) X.xe s
theorem jc_nil : JC g W X [] (execC T .nomore) := by
  intro d ρ μ r h R F m σ H v D so ro rv po pins s u b I ru
  simp only [execC] at h
  have h := Option.some.inj h
  subst h
  exact wpAny_matchCases_nil ⟨σ, H, I, po F m σ H (Grow.refl _ _) so ro⟩
theorem jc_cons (cx : CxOk g ct W X) {p : Pt} {ib : List S} {ir : S} {q : Pattern} {bd : List Stmt} {t : List MatchCase} (hp : chkPt ct p q = true) (hb : JSs g W X bd (execL T ib)) (hr : JC g W X t (execC T ir)) : JC g W X (⟨q, none, bd⟩ :: t) (execC T (.cas p ib ir)) := by
  intro d ρ μ r h R F m σ H v D so ro rv po pins s u b I ru
  simp only [execC] at h
  cases e : matP p d with
  | none =>
    rw [e] at h
    cases h
  | some res =>
    rw [e] at h
    refine wpAny_matchCases_cons (mp_ok cx hp e so rv ru I fun s1 r1 I1 hr1 => ?_)
    cases res with
    | none =>
      have hr1 : r1 = none := hr1
      subst hr1
      exact hr d ρ μ r h R F m σ H v D so ro rv po pins s1 u false I1 ru
    | some bs =>
      obtain ⟨nbs, rfl, pr⟩ := hr1
      refine binds_ok cx pr I1 ro fun σ' s' I' ro' => ?_
      exact hb _ μ r h R F m σ' H D so ro' po pins s' I'
theorem js_mat {x : Expr} {cs : List MatchCase} {e : E} {c : S} {pos : Pos} (he : JE g W X x (evalE T e)) (hc : JC g W X cs (execC T c)) : JS g W X (.Match x cs pos) (execS T (.mat e c)) := by
  intro ρ μ r h R F m σ H D so ro po pins s I
  simp only [execS] at h
  refine wpAny_Match ?_
  obtain ⟨ra, ea, pa⟩ := andS_post h ro po (Ka := QE g fun v H1 => ∀ (s1 : Shared) (u : Value), L2.Inv X pins σ H1 s1 → RelV v u → wpAny (model X.prog X.w) X.A (matchCases cs X.env u true) (SP X pins D) X.xe s1) fun d μ1 e1 h1 F1 m1 H1 gr1 so1 v rv s1 u I1 ru =>
    hc d ρ μ1 r h1 R F1 m1 σ H1 v D so1 (ro.mono gr1) rv (po.grow gr1) pins s1 u true I1 ru
  exact thn (he ρ μ ra ea R F m σ H _ so ro pa pins s I) fun u s1 ⟨v, H1, I1, ru, q⟩ => q s1 u I1 ru
/-! ### op=, while -/
theorem js_aug (cx : CxOk g ct W X) {x : Str} {y : Expr} {i : Nat} {op : Operator} {e : E} {p1 p2 : Pos} (ho : augOk op = true) (hi : ct.N[i]? = some x) (hl : (match ct.sc.names.lookup x with
      | some .local => true
      | some .cell => ct.fn x
      | _ => false) = true) (he : JE g W X y (evalE T e)) : JS g W X (.AugAssign (.Name x p1) op y p2) (execS T (.aug i op e)) := by
  intro ρ μ r h R F m σ H D so ro po
  simp only [execS] at h
  obtain ⟨l1, l2⟩ := loc_of cx hl
  split at h
  · rename_i a hρ
    obtain ⟨v, hσ, rv⟩ := ro.val i _ hρ
    have rv : v = .int a := rv
    subst rv
    have pip : ∃ f : Int → Int → Int, PIp X op (ipI f) ∧ ∀ a b : Int, binD op (.int a) (.int b) = some (.int (f a b)) := by
      cases op with
      | Add => exact ⟨_, ip_add, fun _ _ => rfl⟩
      | Sub => exact ⟨_, ip_sub, fun _ _ => rfl⟩
      | _ => cases ho
    obtain ⟨f, hp, hf⟩ := pip
    refine SS.of (ps_aug (i := i) (by rw [cx.N]; exact cx.nd) (by rw [cx.N]; exact hi) l1 (pe_se X y) hp l2) ?_
    refine ⟨.int a, hσ, ?_⟩
    obtain ⟨ra, ea, pa⟩ := andS_post h ro po (Ka := QE g fun w H1 => ipI f (.int a) w H1 fun z H2 => D.nx (σ.set i (some z)) H2) fun d μ1 e1 h1 F1 m1 H1 gr1 so1 w rw' => by
      split at h1
      · rename_i b
        have rw' : w = .int b := rw'
        subst rw'
        rw [if_pos ho, hf] at h1
        have h1 := Option.some.inj h1
        subst h1
        exact ⟨a, b, rfl, rfl, po F1 m1 _ H1 gr1 so1 ((ro.mono gr1).set i rfl)⟩
      · cases h1
    exact he ρ μ ra ea R F m σ H _ so ro pa
  · cases h
theorem js_whl (cx : CxOk g ct W X) {t : Expr} {body : List Stmt} {n : Nat} {c : B} {ib : List S} {pos : Pos} (hc : JT g W X t (evalT T c)) (hb : JSs g W X body (execL T ib)) : JS g W X (.While t body [] pos) (execS T (.whl n c ib)) := by
  intro ρ μ r h R F m σ H D so ro po
  simp only [execS] at h
  refine SS.of (ps_while cx.pas (pt_st X t) (pss_sss X body)) ?_
  refine ⟨fun k σn Hn => ∃ F2 m2 ρn μn, Grow F m F2 m2 ∧ SOk g.B R F2 m2 μn Hn ∧ ROk g.B F2 m2 ρn σn ∧ whlM (fun ρ => evalT T c ρ) (fun ρ μ => execL T ib ρ μ) k ρn μn = some r, ⟨n, F, m, ρ, μ, Grow.refl _ _, so, ro, h⟩, ?_⟩
  rintro k σn Hn ⟨F2, m2, ρn, μn, gr2, so2, ro2, hR⟩
  cases k with
  | zero => cases hR
  | succ k =>
    simp only [whlM] at hR
    obtain ⟨ra, ea, pa⟩ := andS_post hR ro2 (po.grow gr2) (Ka := fun F' m' H' b => if b = true then ∃ N : L2.St → Hp → Prop, (∀ σ' H'', N σ' H'' → ∃ m', m' < k + 1 ∧ ∃ F2 m2 ρn μn, Grow F m F2 m2 ∧ SOk g.B R F2 m2 μn H'' ∧ ROk g.B F2 m2 ρn σ' ∧ whlM (fun ρ => evalT T c ρ) (fun ρ μ => execL T ib ρ μ) m' ρn μn = some r) ∧
        SSs X body { D with nx := N, ct := N, bk := D.nx } σn H' else D.nx σn H') fun b μ1 e1 h1 F1 m1 H1 gr1 so1 => by
      have gr := gr2.trans gr1
      cases b with
      | false =>
        rw [if_neg (by decide)]
        have h1 : some (Fl.next, ρn, μ1) = some r := h1
        have h1 := Option.some.inj h1
        subst h1
        exact po F1 m1 σn H1 gr so1 (ro2.mono gr1)
      | true =>
        rw [if_pos rfl]
        have h1 : (match execL T ib ρn μ1 with
          | some (.next, ρ2, μ2) => whlM (fun ρ => evalT T c ρ) (fun ρ μ => execL T ib ρ μ) k ρ2 μ2
          | some (.cont, ρ2, μ2) => whlM (fun ρ => evalT T c ρ) (fun ρ μ => execL T ib ρ μ) k ρ2 μ2
          | some (.brk, ρ2, μ2) => some (.next, ρ2, μ2)
          | z => z) = some r := h1
        refine ⟨fun σ' H'' => ∃ F2 m2 ρn μn, Grow F m F2 m2 ∧ SOk g.B R F2 m2 μn H'' ∧ ROk g.B F2 m2 ρn σ' ∧ whlM (fun ρ => evalT T c ρ) (fun ρ μ => execL T ib ρ μ) k ρn μn = some r, fun σ' H'' z => ⟨k, Nat.lt_succ_self _, z⟩, ?_⟩
        cases eb : execL T ib ρn μ1 with
        | none =>
          rw [eb] at h1
          cases h1
        | some z =>
          obtain ⟨fl, ρ2, μ2⟩ := z
          rw [eb] at h1
          refine hb ρn μ1 _ eb R F1 m1 σn H1 _ so1 (ro2.mono gr1) fun F4 m4 σ4 H4 gr4 so4 ro4 => ?_
          have gr' := gr.trans gr4
          cases fl with
          | next => exact ⟨F4, m4, ρ2, μ2, gr', so4, ro4, h1⟩
          | cont => exact ⟨F4, m4, ρ2, μ2, gr', so4, ro4, h1⟩
          | brk =>
            have h1 := Option.some.inj h1
            subst h1
            exact po F4 m4 σ4 H4 gr' so4 ro4
          | ret d =>
            have h1 := Option.some.inj h1
            subst h1
            exact po F4 m4 σ4 H4 gr' so4 ro4
          | exc x =>
            have h1 := Option.some.inj h1
            subst h1
            exact po F4 m4 σ4 H4 gr' so4 ro4
    exact hc ρn μn ra ea R F2 m2 σn Hn _ so2 ro2 pa
end
end Sg
/-! Sg11: the theorem of statements; defs; the law. -/
namespace Sg
open PySem L2
theorem sAsg {g : Gx} {T : Tab} (ct : CT) (W : WX) (X : Cx) (tg : Tg) (e : E) (t v : Expr) (pos : Pos) (fo : FnsOk g T ct.nm) (cx : CxOk g ct W X) (h1 : chkTg ct tg t = true) (h2 : chkE ct e v = true) (h3 : (if notComp v then isNm t || notTup v || celT ct t else (lcNm t v && isLc e)) = true) :
    JS g W X (.Assign [t] v pos) (execS T (.asg tg e)) := by
  by_cases hn : notComp v = true
  · rw [if_pos hn] at h3
    exact js_asg cx h1 (fun _ _ _ _ _ => swaps_tg hn) ((Bool.or_eq_true _ _ |>.mp h3).elim stores_none (stores_cel cx.sc)) (sE e ct W X v fo cx h2)
  · rw [if_neg hn, Bool.and_eq_true] at h3
    obtain ⟨h3, hlc⟩ := h3
    unfold lcNm at h3
    split at h3
    · rename_i x py y gens scope cpos
      cases e with
      | lc vs tgc it ifs elt =>
        have h2' := h2
        simp only [chkE] at h2'
        split at h2'
        · rename_i y' t' i' cs' n' scope' cpos' heq
          cases heq
          simp only [Bool.and_eq_true, decide_eq_true_eq, List.all_eq_true] at h2'
          obtain ⟨⟨⟨⟨⟨⟨⟨rfl, q1⟩, q2⟩, q3⟩, q4⟩, q5⟩, q6⟩, q7⟩ := h2'
          cases tg with
          | tup ts => cases h1
          | name k =>
            simp only [chkTg, Bool.and_eq_true, decide_eq_true_eq] at h1
            obtain ⟨k1, k2⟩ := h1
            by_cases hl : ct.sc.names.lookup x = some .local ∧ (py.line == cpos.line) = true ∧ (scope.names.any fun (n, q) => n == x && (q == .local || q == .cell)) = false
            · exact js_setLc cx q1 q2 k1 hl.1 hl.2.1 hl.2.2 q3 (sI it ct W X _ _ fo cx q4) q5 (fun X' bx => sBs ifs (ct.blk scope) _ X' _ fo (Blk.ok cx bx) q6) (fun X' bx => sE elt (ct.blk scope) _ X' _ fo (Blk.ok cx bx) q7)
            · refine js_asg cx (by simp only [chkTg, Bool.and_eq_true, decide_eq_true_eq]; exact ⟨k1, k2⟩) (fun pins s σ H I => ?_) rfl (sE _ ct W X _ fo cx h2)
              show swapsWith (.ListComp y [⟨t', i', cs', 0⟩] scope cpos) (some (.Name x py)) pos.line X.env = pure false
              have bk : X.env.blockKind = .function := by
                unfold Env.blockKind
                rw [I.ok.kind]
                rfl
              unfold swapsWith
              simp only [bk, Expr.pos]
              show pure _ = pure false
              congr 1
              have kx : X.env.kindOf x = ct.sc.names.lookup x := by
                show X.env.scope.names.lookup x = _
                rw [cx.sc]
              rw [kx]
              by_cases a1 : ct.sc.names.lookup x = some .local
              · by_cases a2 : (py.line == cpos.line) = true
                · have a3 : (scope.names.any fun (n, q) => n == x && (q == .local || q == .cell)) = true := by
                    cases q : (scope.names.any fun (n, q) => n == x && (q == .local || q == .cell)) with
                    | true => rfl
                    | false => exact absurd ⟨a1, a2, q⟩ hl
                  rw [a3]
                  simp
                · have a2 : (py.line == cpos.line) = false := by simpa using a2
                  rw [a2]
                  simp
              · have a1 : (ct.sc.names.lookup x == some .local) = false := by
                  rw [beq_eq_false_iff_ne]
                  exact a1
                rw [a1]
                simp
        · cases h2'
      | _ => cases hlc
    · cases h3
mutual
theorem sS {g : Gx} {T : Tab} : ∀ (ir : S) (ct : CT) (W : WX) (X : Cx) (st : Stmt), FnsOk g T ct.nm → CxOk g ct W X → chkS ct ir st = true → JS g W X st (execS T ir)
  | .asg tg e, ct, W, X, st, fo, cx, h => by
    simp only [chkS] at h
    split at h
    · rw [Bool.and_eq_true, Bool.and_eq_true] at h
      exact sAsg ct W X tg e _ _ _ fo cx h.1.1 h.1.2 h.2
    · cases h
  | .par i j a b, ct, W, X, st, fo, cx, h => by
    simp only [chkS] at h
    split at h
    · simp only [Bool.and_eq_true, decide_eq_true_eq, Bool.not_eq_true'] at h
      obtain ⟨⟨⟨⟨⟨⟨⟨⟨⟨⟨⟨⟨h1, h2⟩, h3⟩, h4⟩, h5⟩, h6⟩, h7⟩, h8⟩, h9⟩, h10⟩, h11⟩, h12⟩, h13⟩ := h
      exact js_par cx h1 h2 h3 h4 h5 h6 h7 h8 h9 h10 h11 (sE a ct W X _ fo cx h12) (sE b ct W X _ fo cx h13)
    · cases h
  | .put k i e, ct, W, X, st, fo, cx, h => by
    simp only [chkS] at h
    split at h
    · simp only [Bool.and_eq_true] at h
      obtain ⟨⟨⟨⟨h1, h2⟩, h3⟩, h4⟩, h5⟩ := h
      exact js_put cx h1 h2 (sE _ ct W X _ fo cx h3) (sE i ct W X _ fo cx h4) (sE e ct W X _ fo cx h5)
    · cases h
  | .fld k x e, ct, W, X, st, fo, cx, h => by
    simp only [chkS] at h
    split at h
    · simp only [Bool.and_eq_true, decide_eq_true_eq] at h
      obtain ⟨⟨⟨rfl, h2⟩, h3⟩, h4⟩ := h
      exact js_fld cx fo h2 (sE _ ct W X _ fo cx h3) (sE e ct W X _ fo cx h4)
    · cases h
  | .app k e, ct, W, X, st, fo, cx, h => by
    simp only [chkS] at h
    split at h
    · simp only [Bool.and_eq_true, decide_eq_true_eq] at h
      obtain ⟨⟨⟨⟨⟨rfl, h1⟩, h2⟩, h3⟩, h4⟩, h5⟩ := h
      exact js_app cx h1 h2 h3 (sE _ ct W X _ fo cx h4) (sE e ct W X _ fo cx h5)
    · cases h
  | .ext k e, ct, W, X, st, fo, cx, h => by
    simp only [chkS] at h
    split at h
    · simp only [Bool.and_eq_true, decide_eq_true_eq] at h
      obtain ⟨⟨⟨⟨⟨rfl, h1⟩, h2⟩, h3⟩, h4⟩, h5⟩ := h
      exact js_ext cx h1 h2 h3 (sE _ ct W X _ fo cx h4) (sE e ct W X _ fo cx h5)
    · cases h
  | .dead, ct, W, X, st, fo, cx, h => js_dead
  | .mat e c, ct, W, X, st, fo, cx, h => by
    simp only [chkS] at h
    split at h
    · rw [Bool.and_eq_true] at h
      exact js_mat (sE e ct W X _ fo cx h.1) (sC c ct W X _ fo cx h.2)
    · cases h
  | .cas p b r, ct, W, X, st, fo, cx, h => by
    simp only [chkS] at h
    cases h
  | .nomore, ct, W, X, st, fo, cx, h => by
    simp only [chkS] at h
    cases h
  | .aug i op e, ct, W, X, st, fo, cx, h => by
    simp only [chkS] at h
    split at h
    · simp only [Bool.and_eq_true, decide_eq_true_eq] at h
      obtain ⟨⟨⟨⟨rfl, h1⟩, h2⟩, h3⟩, h4⟩ := h
      exact js_aug cx h1 h2 h3 (sE e ct W X _ fo cx h4)
    · cases h
  | .whl n c body, ct, W, X, st, fo, cx, h => by
    simp only [chkS] at h
    split at h
    · rw [Bool.and_eq_true] at h
      exact js_whl cx (sB c ct W X _ fo cx h.1).1 (sSs body ct W X _ fo cx h.2)
    · cases h
  | .rai c e, ct, W, X, st, fo, cx, h => by
    simp only [chkS] at h
    split at h
    · simp only [Bool.and_eq_true, decide_eq_true_eq] at h
      obtain ⟨⟨⟨h1, h2⟩, h3⟩, h4⟩ := h
      exact js_rai cx fo h1 h2 h3 (sE e ct W X _ fo cx h4)
    · cases h
  | .rai0 c, ct, W, X, st, fo, cx, h => by
    simp only [chkS] at h
    split at h
    · simp only [Bool.and_eq_true, decide_eq_true_eq] at h
      exact js_rai0 cx fo h.1 h.2
    · cases h
  | .tri body hs, ct, W, X, st, fo, cx, h => by
    simp only [chkS] at h
    split at h
    · simp only [Bool.and_eq_true] at h
      obtain ⟨⟨⟨h1, h2⟩, h3⟩, h4⟩ := h
      exact js_tri cx fo h1 h2 h3 fun W' X' cx' => sSs body ct W' X' _ fo cx' h4
    · cases h
  | .ife c a b, ct, W, X, st, fo, cx, h => by
    simp only [chkS] at h
    split at h
    · simp only [Bool.and_eq_true] at h
      exact js_ife (sB c ct W X _ fo cx h.1.1).1 (sSs a ct W X _ fo cx h.1.2) (sSs b ct W X _ fo cx h.2)
    · cases h
  | .for tg it body, ct, W, X, st, fo, cx, h => by
    simp only [chkS] at h
    split at h
    · simp only [Bool.and_eq_true] at h
      obtain ⟨⟨⟨h1, h2⟩, h3⟩, h4⟩ := h
      exact js_for cx h1 h2 (sI it ct W X _ _ fo cx h3) (sSs body ct W X _ fo cx h4)
    · cases h
  | .ret e, ct, W, X, st, fo, cx, h => by
    simp only [chkS] at h
    split at h
    · exact js_ret (sE e ct W X _ fo cx h)
    · cases h
  | .retN, ct, W, X, st, fo, cx, h => by
    simp only [chkS] at h
    split at h
    · exact js_retN
    · cases h
  | .retS es, ct, W, X, st, fo, cx, h => by
    simp only [chkS] at h
    split at h
    · exact js_retS (sL es ct W X _ fo cx h)
    · cases h
  | .expr e, ct, W, X, st, fo, cx, h => by
    simp only [chkS] at h
    split at h
    · rw [Bool.and_eq_true] at h
      exact js_expr h.1 (sE e ct W X _ fo cx h.2)
    · cases h
  | .pass, ct, W, X, st, fo, cx, h => by
    simp only [chkS] at h
    split at h
    · exact js_next ps_pass fun _ _ => by simp only [execS]
    · cases h
  | .brk, ct, W, X, st, fo, cx, h => by
    simp only [chkS] at h
    split at h
    · exact js_brk
    · cases h
  | .cont, ct, W, X, st, fo, cx, h => by
    simp only [chkS] at h
    split at h
    · exact js_cont
    · cases h
theorem sC {g : Gx} {T : Tab} : ∀ (ir : S) (ct : CT) (W : WX) (X : Cx) (cs : List MatchCase), FnsOk g T ct.nm → CxOk g ct W X → chkC ct ir cs = true → JC g W X cs (execC T ir)
  | .cas p b r, ct, W, X, cs, fo, cx, h => by
    simp only [chkC] at h
    split at h
    · simp only [Bool.and_eq_true] at h
      exact jc_cons cx h.1.1 (sSs b ct W X _ fo cx h.1.2) (sC r ct W X _ fo cx h.2)
    · cases h
  | .nomore, ct, W, X, cs, fo, cx, h => by
    simp only [chkC, List.isEmpty_iff] at h
    subst h
    exact jc_nil
  | .asg _ _, _, _, _, _, _, _, h => by cases h
  | .par _ _ _ _, _, _, _, _, _, _, h => by cases h
  | .put _ _ _, _, _, _, _, _, _, h => by cases h
  | .fld _ _ _, _, _, _, _, _, _, h => by cases h
  | .app _ _, _, _, _, _, _, _, h => by cases h
  | .ext _ _, _, _, _, _, _, _, h => by cases h
  | .ife _ _ _, _, _, _, _, _, _, h => by cases h
  | .for _ _ _, _, _, _, _, _, _, h => by cases h
  | .ret _, _, _, _, _, _, _, h => by cases h
  | .retN, _, _, _, _, _, _, h => by cases h
  | .retS _, _, _, _, _, _, _, h => by cases h
  | .expr _, _, _, _, _, _, _, h => by cases h
  | .pass, _, _, _, _, _, _, h => by cases h
  | .brk, _, _, _, _, _, _, h => by cases h
  | .cont, _, _, _, _, _, _, h => by cases h
  | .dead, _, _, _, _, _, _, h => by cases h
  | .rai _ _, _, _, _, _, _, _, h => by cases h
  | .rai0 _, _, _, _, _, _, _, h => by cases h
  | .tri _ _, _, _, _, _, _, _, h => by cases h
  | .mat _ _, _, _, _, _, _, _, h => by cases h
  | .aug _ _ _, _, _, _, _, _, _, h => by cases h
  | .whl _ _ _, _, _, _, _, _, _, h => by cases h
theorem sSs {g : Gx} {T : Tab} : ∀ (irs : List S) (ct : CT) (W : WX) (X : Cx) (sts : List Stmt), FnsOk g T ct.nm → CxOk g ct W X → chkSs ct irs sts = true → JSs g W X sts (execL T irs)
  | [], ct, W, X, [], fo, cx, h => jss_nil
  | [], ct, W, X, _ :: _, fo, cx, h => by cases h
  | _ :: _, ct, W, X, [], fo, cx, h => by cases h
  | ir :: irs, ct, W, X, st :: sts, fo, cx, h => by
    simp only [chkSs, Bool.and_eq_true] at h
    exact jss_cons (sS ir ct W X _ fo cx h.1) (sSs irs ct W X _ fo cx h.2)
end

/-! ### a def by its body -/
section
variable {gd : Bool} {P : Program} {w : World} {mg : Str → Option Value} {base : Heap} {B : Bk} {k : Nat}
/-- the name of a def's lambdas -/
def lname (qual : Str) : Str := (qual ++ ".<locals>.") ++ "<lambda>"
/-- the table of a def's code object -/
def LamT (g : Gx) (qual : Str) (cdv : Value) : Prop := ∃ c P, LamX.TabB g.base g.mg c P ∧ cdv = .ref c ∧ (P, lname qual) ∈ g.B.tabs ∧ ∀ p ∈ g.B.tabs, p.1 = P → p.2 = lname qual
/-- the def's own context -/
theorem cx_of {g : Gx} {N : List Str} {qual : Str} {sc : Scope} {f : Addr} {cdv : Value} {A : Around} {outer : List Env} {s : Shared} {H : Hp} {E : XK} {nm : Nm} {lam : Bool} {j : Nat} (nd : N.Nodup)
    (hr : Room (g.lv + 1 + j) (A.deeper (PyProof.Rows.envOfC qual sc s.heap.objs.size f cdv))) (hg : g.gd = true → A.guards = some []) (hl : lam = true → 2 ≤ j ∧ LamT g qual cdv) :
    CxOk g ⟨N, sc, fun _ => true, nm, true, lam⟩ (fun cls d _ H' => E cls d H') (cxOf (L2.CX g.P g.w) g.P g.w g.B.K g.mg g.base N qual sc f cdv A outer s H E) :=
  ⟨rfl, rfl, rfl, rfl, rfl, rfl, rfl, nd, rfl, hr.mono (by omega), hg, fun _ _ => rfl, passes_of rfl, takes_of rfl rfl rfl rfl, fun _ => ⟨rfl, rfl⟩, fun h => by
    obtain ⟨h1, c, P, h2, h3, h4, h5⟩ := hl h
    exact ⟨hr.mono (by omega), c, P, h2, h3, h4, h5⟩⟩
/-- K says it of the def's code object -/
def CodeAt (K : PySem.W.Frag) (f : Addr) (cdv : Value) : Prop := ∃ o fd, K.lookup f = some o ∧ o.data = .func fd ∧ fd.code = cdv
theorem fnP_of {x qual : Str} {st : Stmt} {f : Addr} {fd : FuncData} {N ps : List Str} {sp : Sp} (F : Fun B.K x qual st f fd) (S : FnScope N ps (defScope st)) (hbd : Binds B.K fd ps []) (len : ∀ vs H Q E, sp vs H Q E → vs.length = ps.length)
    (hbody : ∀ (cdv : Value) (A : Around) (outer : List Env) (s : Shared) (H : Hp) (vs : List V) (Q : VK) (E : XK), CodeAt B.K f cdv → Room k (A.deeper (PyProof.Rows.envOfC qual (defScope st) s.heap.objs.size f cdv)) → (gd = true → A.guards = some []) → sp vs H Q E →
      SSs (cxOf (L2.CX P w) P w B.K mg base N qual (defScope st) f cdv A outer s H E) (defBody st) { nx := fun _ H' => Q .non H', rt := Q } (L2.start N vs) H) : FnP gd P w B.K mg base (k + 1) f sp := by
  obtain ⟨oc, od, kV, doc, pm, an, cdv, ct, osl, rfl, lk, hcd⟩ := F.ex
  intro A outer s H us vs Q E hr hgu e0 r hsp
  have hl := len _ _ _ _ hsp
  have kin : B.K.In s.heap := e0.mod.kin.keeps fun b o e => (e0.bs b o e).1
  have hb := hbd s us kin (by rw [List.append_nil, ← r.length]; exact hl)
  rw [List.append_nil] at hb
  have lim : s.heap.NoLimit := e0.mod.nolimit.keeps fun b o e => (e0.bs b o e).1
  have kinds : ∀ y ∈ ps.zip us, (defScope st).names.lookup y.1 = some .local ∨ ((defScope st).names.lookup y.1 = some .cell ∧ ((cellsFrom (s.heap.objs.size + 1) (defScope st).names []).lookup y.1).isSome = true) := by
    rintro ⟨n, v⟩ hy
    rcases S.par n (List.of_mem_zip hy).1 with q | q
    · exact Or.inl q
    · exact Or.inr ⟨q, PySem.W.cellsFrom_some _ _ _ (Or.inl q)⟩
  refine codeAny_call_function hr.depth (kin _ _ lk) rfl S.co S.gen rfl (PySem.W.codeRec_of kin hcd) (hb _ _ _ _ ?_)
  refine wpAny_newFunctionEnv_cells S.kind kinds fun env he s1 x => ?_
  subst he
  refine ⟨lim.keeps x.toInCall.keep, codeAny_func ?_⟩
  have J : L2.Inv (cxOf (L2.CX P w) P w B.K mg base N qual (defScope st) f cdv A outer s H E) [] (L2.start N vs) H s1 := inv_start S hr.hd e0 hl r x
  refine wpAny_mono (hbody cdv A outer s H vs Q E ⟨_, _, lk, rfl, rfl⟩ (hr.deeper _) hgu hsp [] s1 J) (fun fl s' hs => ?_) fun e s' hs => hs
  cases fl with
  | ret u =>
    obtain ⟨v, σ', H', J', rv, q⟩ := hs
    exact ⟨v, H', J'.os, J'.bare, J'.base, J'.hok, rv, q⟩
  | next =>
    obtain ⟨σ', H', J', q⟩ := hs
    exact ⟨V.non, H', J'.os, J'.bare, J'.base, J'.hok, rfl, q⟩
  | brk =>
    obtain ⟨_, _, _, q⟩ := hs
    exact False.elim q
  | cont =>
    obtain ⟨_, _, _, q⟩ := hs
    exact False.elim q
end
theorem start_ok {B : Bk} {F : Hp} {m : List Addr} {N : List Str} {ds : List D} {vs : List V} (h : RepL B F m ds vs) : ROk B F m (startR N.length ds) (L2.start N vs) := by
  have hl := h.length
  refine ⟨?_, fun i d e => ?_⟩
  · unfold startR L2.start
    simp [hl]
  · unfold startR at e
    by_cases hi : i < ds.length
    · rw [List.getElem?_append_left (by simpa using hi), List.getElem?_map] at e
      cases q : ds[i]? with
      | none =>
        rw [q] at e
        cases e
      | some d' =>
        rw [q] at e
        have e := Option.some.inj (Option.some.inj e)
        subst e
        obtain ⟨v, e1, e2⟩ := h.get i d' q
        refine ⟨v, ?_, e2⟩
        unfold L2.start
        rw [List.getElem?_append_left (by simpa [← hl] using hi), List.getElem?_map, e1]
        rfl
    · rw [List.getElem?_append_right (by simpa using hi), List.getElem?_replicate] at e
      split at e <;> cases e
/-- a def: t is what its body does -/
theorem fn_ok {g : Gx} {T : Tab} {nm : Nm} {x qual : Str} {st : Stmt} {f : Addr} {fd : FuncData} {N ps : List Str} {body : List S} {t : List D → M D} {lam : Bool} {j : Nat} (fo : FnsOk g T nm) (F : Fun g.B.K x qual st f fd) (S : FnScope N ps (defScope st)) (hbd : Binds g.B.K fd ps [])
    (hlm : lam = true → 2 ≤ j ∧ ∀ cdv, CodeAt g.B.K f cdv → LamT g qual cdv) (hc : chkSs ⟨N, defScope st, fun _ => true, nm, true, lam⟩ body (defBody st) = true) (hn : ∀ ds μ r, t ds μ = some r → ds.length = ps.length) (ht : ∀ ds μ r, t ds μ = some r → runB T N.length body ds μ = some r) :
    FnP g.gd g.P g.w g.B.K g.mg g.base (g.lv + 1 + j + 1) f (Prm g.B t) := by
  refine fnP_of F S hbd (fun vs H Q E h => ?_) (fun cdv A outer s H vs Q E hcd hr hgu h => ?_)
  · obtain ⟨R, F, m, μ, ds, r, so, rv, e, _⟩ := h
    rw [← rv.length]
    exact hn ds μ r e
  · obtain ⟨R, F, m, μ, ds, r, so, rv, e, po⟩ := h
    have cx := cx_of (g := g) (outer := outer) (H := H) (E := E) (nm := nm) S.nd hr hgu fun z => ⟨(hlm z).1, (hlm z).2 _ hcd⟩
    have e := ht ds μ r e
    unfold runB at e
    cases q : execL T body (startR N.length ds) μ with
    | none =>
      rw [q] at e
      cases e
    | some z =>
      obtain ⟨fl, ρ', μ'⟩ := z
      rw [q] at e
      refine sSs body _ _ _ _ fo cx hc _ _ _ q R F m _ H _ so (start_ok rv) fun F' m' σ' H' gr so' ro' => ?_
      have hcut : SOk g.B R F' (m'.take μ.length) (μ'.take μ.length) H' := so'.cut μ.length
      have hm : Grow F m F' (m'.take μ.length) := ⟨gr.sub, fun k a ek => by
        have hk : k < μ.length := by
          rw [← so.len]
          exact (List.getElem?_eq_some_iff.mp ek).1
        rw [List.getElem?_take_of_lt hk]
        exact gr.pre k a ek⟩
      cases fl with
      | ret d =>
        have e : (if d.nr then some (Except.ok d, μ'.take μ.length) else none) = some r := e
        split at e
        · rename_i hd
          have e := Option.some.inj e
          subst e
          exact fun v rv' => po F' _ H' hm hcut v (Rep.any d v hd rv')
        · cases e
      | next =>
        have e := Option.some.inj e
        subst e
        exact po F' _ H' hm hcut V.non rfl
      | exc x =>
        have e : (if D.nrL x.ds then some (Except.error x, μ'.take μ.length) else none) = some r := e
        split at e
        · rename_i hd
          have e := Option.some.inj e
          subst e
          refine fun cls dx rx => po F' _ H' cls dx hm hcut ?_
          obtain ⟨ns, h1, h2⟩ := rx
          refine ⟨ns, h1, ?_⟩
          rcases h2 with h2 | ⟨hn, d, vs, h3, h4, h5, h6⟩
          · exact .inl h2
          · exact .inr ⟨hn, d, vs, h3, h4, h5, RepL.any _ _ hd h6⟩
        · cases e
      | brk => cases e
      | cont => cases e
/-- a def that hands back a new shared list -/
theorem fn_okN {g : Gx} {T : Tab} {nm : Nm} {x qual : Str} {st : Stmt} {f : Addr} {fd : FuncData} {N ps : List Str} {body : List S} {t : List D → M D} {lam : Bool} {j : Nat} (fo : FnsOk g T nm) (F : Fun g.B.K x qual st f fd) (S : FnScope N ps (defScope st)) (hbd : Binds g.B.K fd ps [])
    (hlm : lam = true → 2 ≤ j ∧ ∀ cdv, CodeAt g.B.K f cdv → LamT g qual cdv) (hc : chkSs ⟨N, defScope st, fun _ => true, nm, true, lam⟩ body (defBody st) = true) (hn : ∀ ds μ r, t ds μ = some r → ds.length = ps.length) (ht : ∀ ds μ r, t ds μ = some r → runN T N.length body ds μ = some r) :
    FnP g.gd g.P g.w g.B.K g.mg g.base (g.lv + 1 + j + 1) f (Prm g.B t) := by
  refine fnP_of F S hbd (fun vs H Q E h => ?_) (fun cdv A outer s H vs Q E hcd hr hgu h => ?_)
  · obtain ⟨R, F, m, μ, ds, r, so, rv, e, _⟩ := h
    rw [← rv.length]
    exact hn ds μ r e
  · obtain ⟨R, F, m, μ, ds, r, so, rv, e, po⟩ := h
    have cx := cx_of (g := g) (outer := outer) (H := H) (E := E) (nm := nm) S.nd hr hgu fun z => ⟨(hlm z).1, (hlm z).2 _ hcd⟩
    have e := ht ds μ r e
    unfold runN at e
    cases q : execL T body (startR N.length ds) μ with
    | none =>
      rw [q] at e
      cases e
    | some z =>
      obtain ⟨fl, ρ', μ'⟩ := z
      rw [q] at e
      refine sSs body _ _ _ _ fo cx hc _ _ _ q R F m _ H _ so (start_ok rv) fun F' m' σ' H' gr so' ro' => ?_
      cases fl with
      | ret d =>
        cases d with
        | ref kk =>
          have e : (match μ'[kk]? with
            | some (.shr xs) => if μ.length ≤ kk then some (Except.ok (D.ref μ.length), μ'.take μ.length ++ [.shr xs]) else none
            | _ => none) = some r := e
          split at e
          · rename_i xs hk
            split at e
            · rename_i hle
              have e := Option.some.inj e
              subst e
              rintro v ⟨a, ea, rfl⟩
              have hcut : SOk g.B R F' (m'.take μ.length) (μ'.take μ.length) H' := so'.cut μ.length
              obtain ⟨hF, oo, hH, ws, rfl, rr⟩ := so'.live hk ea fun _ => nofun
              have nr := so'.nr _ _ hk
              have hnot : a ∉ m'.take μ.length := fun hm => by
                obtain ⟨j, hj, ej⟩ := List.mem_iff_getElem.mp hm
                have hj2 : j < μ.length := by
                  rw [List.length_take] at hj
                  omega
                have ej' : (m'.take μ.length)[j]? = some a := List.getElem?_eq_some_iff.mpr ⟨hj, ej⟩
                rw [List.getElem?_take_of_lt hj2] at ej'
                have := nodup_at so'.nd ej' ea
                omega
              have g1 : Grow F m F' (m'.take μ.length) := ⟨gr.sub, fun k a ek => by
                have hk : k < μ.length := by
                  rw [← so.len]
                  exact (List.getElem?_eq_some_iff.mp ek).1
                rw [List.getElem?_take_of_lt hk]
                exact gr.pre k a ek⟩
              have g2 : Grow F' (m'.take μ.length) F' (m'.take μ.length ++ [a]) := ⟨Same.refl _, fun k b ek => by
                rw [List.getElem?_append_left (List.getElem?_eq_some_iff.mp ek).1]
                exact ek⟩
              have hmu : μ.length ≤ μ'.length := by
                have := (List.getElem?_eq_some_iff.mp hk).1
                omega
              have lt : (m'.take μ.length).length = μ.length := by
                rw [List.length_take, show m'.length = μ'.length from so'.len]
                omega
              have so2 : SOk g.B R F' (m'.take μ.length ++ [a]) (μ'.take μ.length ++ [.shr xs]) H' := by
                refine ⟨hcut.sub, ?_, fun k c hk' => ?_, ?_, fun k c hk' => ?_, hcut.fr, fun b o eb => ⟨(hcut.ap b o eb).1, fun hm => ?_⟩, hcut.tb, hcut.pF, hcut.pR⟩
                · rw [List.length_append, List.length_append, hcut.len]
                  rfl
                · by_cases hl : k < (μ'.take μ.length).length
                  · rw [List.getElem?_append_left hl] at hk'
                    obtain ⟨b, eb, hb⟩ := hcut.cell k c hk'
                    exact ⟨b, g2.pre _ _ eb, hb.move g2 (fun o e => e) fun e => e⟩
                  · rw [List.getElem?_append_right (by omega)] at hk'
                    have hm := List.mem_of_getElem? hk'
                    rw [List.mem_singleton] at hm
                    subst hm
                    have hz : k - (μ'.take μ.length).length = 0 := by
                      have := (List.getElem?_eq_some_iff.mp hk').1
                      have h1 : [Cell.shr xs].length = 1 := rfl
                      omega
                    refine ⟨a, ?_, .inr ⟨hF, _, hH, ws, rfl, RepL.any _ _ nr rr⟩⟩
                    rw [List.getElem?_append_right (by rw [hcut.len]; omega), hcut.len, hz]
                    rfl
                · rw [List.nodup_append]
                  exact ⟨hcut.nd, by simp, fun b hb c hc => by
                    rw [List.mem_singleton] at hc
                    subst hc
                    exact fun e => hnot (e ▸ hb)⟩
                · by_cases hl : k < (μ'.take μ.length).length
                  · rw [List.getElem?_append_left hl] at hk'
                    exact hcut.nr k c hk'
                  · rw [List.getElem?_append_right (by omega)] at hk'
                    have hm := List.mem_of_getElem? hk'
                    rw [List.mem_singleton] at hm
                    subst hm
                    exact nr
                · rcases List.mem_append.mp hm with h | h
                  · exact (hcut.ap b o eb).2 h
                  · rw [List.mem_singleton] at h
                    subst h
                    exact (so'.ap _ o eb).2 (List.mem_of_getElem? ea)
              refine po F' _ H' (g1.trans g2) so2 (.ref a) ⟨a, ?_, rfl⟩
              rw [List.getElem?_append_right (by rw [lt]; exact Nat.le_refl _), lt, Nat.sub_self]
              rfl
            · cases e
          · cases e
        | _ => cases e
      | next => cases e
      | exc x => cases e
      | brk => cases e
      | cont => cases e
theorem rol_ok {B : Bk} {F : Hp} {m : List Addr} {a : Addr} : ∀ {ns : List Int}, RepL B F m (ns.map D.int) (ns.map V.int)
  | [] => rfl
  | n :: ns => ⟨.int n, ns.map V.int, rfl, rfl, rol_ok (a := a)⟩
theorem fnB_ok {g : Gx} {T : Tab} {nm : Nm} {x qual : Str} {st : Stmt} {f : Addr} {fd : FuncData} {N ps : List Str} {body : List S} {lam : Bool} {j : Nat} (fo : FnsOk g T nm) (F : Fun g.B.K x qual st f fd) (S : FnScope N ps (defScope st)) (hbd : Binds g.B.K fd ps [])
    (hlm : lam = true → 2 ≤ j ∧ ∀ cdv, CodeAt g.B.K f cdv → LamT g qual cdv) (hc : chkSs ⟨N, defScope st, fun _ => true, nm, true, lam⟩ body (defBody st) = true) : FnP g.gd g.P g.w g.B.K g.mg g.base (g.lv + 1 + j + 1) f (Prm g.B (fnB T N.length ps.length body)) :=
  fn_ok fo F S hbd hlm hc (fun ds μ r h => by
    unfold fnB at h
    split at h
    · assumption
    · cases h) fun ds μ r h => by
    unfold fnB at h
    split at h
    · exact h
    · cases h
theorem fnN_ok {g : Gx} {T : Tab} {nm : Nm} {x qual : Str} {st : Stmt} {f : Addr} {fd : FuncData} {N ps : List Str} {body : List S} {lam : Bool} {j : Nat} (fo : FnsOk g T nm) (F : Fun g.B.K x qual st f fd) (S : FnScope N ps (defScope st)) (hbd : Binds g.B.K fd ps [])
    (hlm : lam = true → 2 ≤ j ∧ ∀ cdv, CodeAt g.B.K f cdv → LamT g qual cdv) (hc : chkSs ⟨N, defScope st, fun _ => true, nm, true, lam⟩ body (defBody st) = true) : FnP g.gd g.P g.w g.B.K g.mg g.base (g.lv + 1 + j + 1) f (Prm g.B (fnN T N.length ps.length body)) :=
  fn_okN fo F S hbd hlm hc (fun ds μ r h => by
    unfold fnN at h
    split at h
    · assumption
    · cases h) fun ds μ r h => by
    unfold fnN at h
    split at h
    · exact h
    · cases h
theorem XtOk.with {gd gd' : Bool} {P : Program} {w : World} {mg : Str → Option Value} {base : Heap} {B : Bk} {lv lv' : Nat} {fa : List Addr} {ps ps' : List (List D → M D)} {ca : List Cat} {xs : List Xc} {n : NmX} (h : XtOk ⟨gd, P, w, mg, base, B, lv, fa⟩ ⟨ps, ca, xs⟩ n) : XtOk ⟨gd', P, w, mg, base, B, lv', fa⟩ ⟨ps', ca, xs⟩ n :=
  ⟨fun c k e => by
    obtain ⟨x, C, h1, h2⟩ := h.xc c k e
    exact ⟨x, C, h1, ⟨h2.mg, h2.bk, h2.kp, h2.ex, h2.ty, h2.mk0, h2.mk1, h2.isi, h2.na⟩⟩, h.nm, h.exm, h.xl, h.cat⟩
theorem FnP.any {gd : Bool} {P : Program} {w : World} {K : PySem.W.Frag} {mg : Str → Option Value} {base : Heap} {k : Nat} {f : Addr} {sp : Sp} (F : FnP false P w K mg base k f sp) : FnP gd P w K mg base k f sp :=
  fun A outer s H us vs Q E hr _ => F A outer s H us vs Q E hr (fun z => by cases z)
theorem FnP.no {gd : Bool} {P : Program} {w : World} {K : PySem.W.Frag} {mg : Str → Option Value} {base : Heap} {k : Nat} {f : Addr} {B : Bk} : FnP gd P w K mg base k f (Prm B noF) := by
  intro A outer s H us vs Q E _ _ _ _ h
  obtain ⟨_, _, _, _, _, _, _, _, e, _⟩ := h
  cases e
theorem snoc_at {α : Type} {ts : List α} {t u : α} {i : Nat} (h : (ts ++ [t])[i]? = some u) : ts[i]? = some u ∨ (i = ts.length ∧ u = t) := by
  by_cases hi : i < ts.length
  · rw [List.getElem?_append_left hi] at h
    exact .inl h
  · rw [List.getElem?_append_right (by omega)] at h
    have m1 := List.mem_of_getElem? h
    rw [List.mem_singleton] at m1
    have hl := (List.getElem?_eq_some_iff.mp h).1
    have h1 : [t].length = 1 := rfl
    exact .inr ⟨by omega, m1⟩
section
variable {gd : Bool} {P : Program} {w : World} {mg : Str → Option Value} {base : Heap} {B : Bk} {lv j : Nat} {fa : List Addr} {ts ps : List (List D → M D)} {cs : List D} {cl : List Cl} {ca : List Cat} {xs : List Xc} {nm : Nm} {t : List D → M D} {f : Addr}
theorem FnsOk.snoc2 {u : List D → M D} (fo : FnsOk ⟨gd, P, w, mg, base, B, lv, fa⟩ ⟨ts, cs, cl, ⟨ps, ca, xs⟩⟩ nm) (hf : fa[ts.length]? = some f) (hl : ps.length = ts.length) (h4 : FnP gd P w B.K mg base (lv + 1 + j + 1) f (Prm B t)) (h5 : FnP false P w B.K mg base (lv + 1 + j + 1) f (Prm B u)) :
    FnsOk ⟨gd, P, w, mg, base, B, lv + 1 + j + 1, fa⟩ ⟨ts ++ [t], cs, cl, ⟨ps ++ [u], ca, xs⟩⟩ nm := by
  refine ⟨fun i v e1 => ?_, fo.gn, fo.con, fo.cl, fo.clk, fo.cln, fo.kit, fo.kitB, fo.kitT, fo.isi, fo.blt, fo.gd, fun i v e1 => ?_, fo.xt.with, by show 1 ≤ lv + 1 + j + 1; omega⟩
  · rcases snoc_at e1 with q | ⟨rfl, rfl⟩
    · obtain ⟨f', q1, q4⟩ := fo.fn i v q
      exact ⟨f', q1, q4.mono (by show lv ≤ lv + 1 + j + 1; omega)⟩
    · exact ⟨f, hf, h4⟩
  · rcases snoc_at e1 with q | ⟨rfl, rfl⟩
    · obtain ⟨f', q1, q4⟩ := fo.pfn i v q
      exact ⟨f', q1, q4.mono (by show lv ≤ lv + 1 + j + 1; omega)⟩
    · exact ⟨f, by rw [hl]; exact hf, h5⟩
/-- a def that shows nothing -/
theorem FnsOk.snocP (fo : FnsOk ⟨gd, P, w, mg, base, B, lv, fa⟩ ⟨ts, cs, cl, ⟨ps, ca, xs⟩⟩ nm) (hf : fa[ts.length]? = some f) (hl : ps.length = ts.length) (h4 : FnP false P w B.K mg base (lv + 1 + j + 1) f (Prm B t)) :
    FnsOk ⟨gd, P, w, mg, base, B, lv + 1 + j + 1, fa⟩ ⟨ts ++ [t], cs, cl, ⟨ps ++ [t], ca, xs⟩⟩ nm := fo.snoc2 hf hl h4.any h4
/-- a def that does -/
theorem FnsOk.snocN (fo : FnsOk ⟨gd, P, w, mg, base, B, lv, fa⟩ ⟨ts, cs, cl, ⟨ps, ca, xs⟩⟩ nm) (hf : fa[ts.length]? = some f) (hl : ps.length = ts.length) (h4 : FnP gd P w B.K mg base (lv + 1 + j + 1) f (Prm B t)) :
    FnsOk ⟨gd, P, w, mg, base, B, lv + 1 + j + 1, fa⟩ ⟨ts ++ [t], cs, cl, ⟨ps ++ [noF], ca, xs⟩⟩ nm := fo.snoc2 hf hl h4 .no
end
/-- the heap at the beginning: the script, empty tables -/
def noTbl (H : Hp) : Hp := fun b => match H b with
  | some (.tbl _) => none
  | x => x
theorem noTbl_of {H : Hp} {b : Addr} {o : HO} (h : noTbl H b = some o) : H b = some o ∧ ∀ ps, o ≠ .tbl ps := by
  unfold noTbl at h
  split at h
  · cases h
  · rename_i hn
    exact ⟨h, fun ps z => hn ps (by rw [h, z])⟩
/-- the script is handed in, True comes out -/
theorem law_prm {B : Bk} {t : List D → M D} {H : Hp} {a : Addr} {ns : List Int} (hO : ∀ b, H b = none ∨ H b = some (.tbl #[]) ∨ ∃ o xs, H b = some (.frz o (.lst xs))) (hT : ∀ p ∈ B.tabs, H p.1 = some (.tbl #[])) (hS : SqL B.K H a (ns.map V.int)) {μ' : Store} (h : t [.rol (ns.map D.int)] [] = some (.ok (.bl true), μ')) : Prm B t [.ref a] H (fun v _ => v = .bl true) (fun _ _ _ => False) := by
  refine ⟨fun _ => none, noTbl H, [], [], [.rol (ns.map D.int)], _, ⟨fun b o e => (noTbl_of e).1, rfl, (fun k c hk => by simp at hk), List.nodup_nil, (fun k c hk => by simp at hk), (fun b o e => by cases e), (fun b o e => by cases e), (fun p hp => LamX.TabS.nil (hT p hp)), (fun b o e => by
    obtain ⟨e1, e2⟩ := noTbl_of e
    rcases hO b with q | q | ⟨ob, xs, q⟩
    · rw [q] at e1; cases e1
    · rw [q] at e1; cases e1; exact absurd rfl (e2 _)
    · rw [q] at e1; cases e1; rfl), (fun b o e => by cases e)⟩, ?_, h, ?_⟩
  · refine RepL.one ⟨a, _, rfl, ?_, rol_ok (a := a)⟩
    rcases hS with (hS | ⟨o, hS⟩) | hS
    · exact .inl (.inl (by unfold noTbl; rw [hS]))
    · exact .inl (.inr ⟨o, by unfold noTbl; rw [hS]⟩)
    · exact .inr hS
  · intro F' m' H' _ _ v hv
    exact hv
end Sg
/-! SgE2: the __init__ of a class of exceptions with one attribute. -/
namespace Sg
open PySem PySem.Spec PyProof.Rows L2
/-- B.__init__(self, v); self.f = v -/
def chkIni (Bn f : Str) (x y : Str) (sc : Scope) : List Stmt → Bool
  | [.Expr (.Call (.Attribute (.Name b _) nm ap) [.Name x1 _, .Name y1 _] [] cp) _, .Assign [.Attribute (.Name x2 _) f1 _] (.Name y2 _) _] =>
    decide (b = Bn) && decide (nm = "__init__") && decide (x1 = x) && decide (y1 = y) && decide (x2 = x) && decide (y2 = y) && decide (f1 = f) && decide (sc.names.lookup b = some .globalImplicit) && decide (sc.names.lookup x = some .local) && decide (sc.names.lookup y = some .local) &&
      !(x == ("__debug__" : Str)) && !(y == ("__debug__" : Str)) && !(x == ("__classdict__" : Str)) && !(y == ("__classdict__" : Str)) && (ap.endLine == cp.line)
  | _ => false
theorem pe_bin2 {X : Cx} {e1 e2 : Expr} {ta : TA} {Bn nI iI : String} {tl : List Value} {p1 p2 pos : Pos} (Bs : BsOk Bn nI iI tl) (hg : Gl X (Str.ofString Bn)) (hm : X.mg (Str.ofString Bn) = none) (vV : PySem.W.findCls X.K (.type Bn) (.type "type") "__init__" = some (.val (.builtin iI))) (ha : PA X [e1, e2] ta)
    (h1 : notStar e1 = true) (h2 : notStar e2 = true) (hl : (p2.endLine == pos.line) = true) : PE X (.Call (.Attribute (.Name (Str.ofString Bn) p1) "__init__" p2) [e1, e2] [] pos) (tBi X.K nI tl ta) := by
  refine ⟨fun pins s σ H Q I h => ?_⟩
  have hst : starEach [e1, e2] X.env = (false, eval e1 X.env) :: starEach [e2] X.env := star_cons h1 _ _
  have hst2 : starEach [e2] X.env = (false, eval e2 X.env) :: starEach [] X.env := star_cons h2 _ _
  refine call_of rfl ?_ hl (ld_blt I hg hm Bs.boot (fun pl => ?_) Bs.nn Bs.nd)
  · unfold methodCallForm
    rw [hst, hst2]
    rfl
  obtain ⟨m, fr⟩ := I.fr
  refine PySem.W.method_type fr I.ok.mod.kin Bs.typ Bs.stub vV Bs.hand ?_
  show wpAny _ _ (callWith pos (Value.builtin iI) [] (backTo pos (starEach [e1, e2] X.env)) []) _ _ _
  refine PyProof.Rows.callWith_method1 (thn (ha.run pos pins _ σ H _ (I.tok _) h) fun us s1 ⟨vs, H1, I1, r1, a, C, ws, ev, hl, T, ea, q⟩ => ?_) hst (by rw [hst2]; rfl)
  subst ev
  cases r1 with
  | @cons _ u0 _ ur ra rw' =>
    obtain rfl : u0 = Value.ref a := ra
    exact ox_init Bs T I1 ea (by rw [← Paired.length rw', sizeLine_eq]; omega) fun s' J => ⟨.non, H1, J, rfl, q⟩
theorem ini_ok {g : Gx} {qual x y f : Str} {st : Stmt} {C fI : Addr} {fd : FuncData} {Bn nI iI : String} {tl : List Value} (F : Fun g.B.K "__init__" qual st fI fd) (S : FnScope [x, y] [x, y] (defScope st)) (hbd : Binds g.B.K fd [x, y] []) (Bs : BsOk Bn nI iI tl) (T : OxC g.B.K C nI tl)
    (hno : PySem.W.findIn g.B.K (.ref C) f = some none) (vV : PySem.W.findCls g.B.K (.type Bn) (.type "type") "__init__" = some (.val (.builtin iI))) (hm : g.mg (Str.ofString Bn) = none) (hc : chkIni (Str.ofString Bn) f x y (defScope st) (defBody st) = true) :
    FnP false g.P g.w g.B.K g.mg g.base 1 fI (spIni C f) := by
  refine fnP_of (k := 0) F S hbd (fun vs H Q E h => ?_) fun cdv A outer s H vs Q E _ hr _ h => ?_
  · obtain ⟨a, v, rfl, _⟩ := h
    rfl
  · obtain ⟨a, v, rfl, ha, q⟩ := h
    unfold chkIni at hc
    split at hc
    · rename_i b p1 nm ap x1 p2 y1 p3 cp p4 x2 p5 f1 p6 y2 p7 p8 heq
      simp only [Bool.and_eq_true, decide_eq_true_eq, Bool.not_eq_true'] at hc
      obtain ⟨⟨⟨⟨⟨⟨⟨⟨⟨⟨⟨⟨⟨⟨rfl, rfl⟩, rfl⟩, rfl⟩, rfl⟩, rfl⟩, rfl⟩, h1⟩, h2⟩, h3⟩, h4⟩, h5⟩, h6⟩, h7⟩, h8⟩ := hc
      let X := cxOf (L2.CX g.P g.w) g.P g.w g.B.K g.mg g.base [x2, y2] qual (defScope st) fI cdv A outer s H E
      have px : ∀ {p : Pos}, PE X (.Name x2 p) (tVar 0) := fun {p} => pe_var (X := X) (i := 0) rfl (.inl h2) h4 h6
      have py : ∀ {p : Pos}, PE X (.Name y2 p) (tVar 1) := fun {p} => pe_var (X := X) (i := 1) rfl (.inl h3) h5 h7
      rw [heq]
      refine SSs.of (pss_cons (ps_expr (pe_bin2 (X := X) (p1 := p1) (p2 := ap) (pos := cp) Bs h1 hm vV (pa_cons px (pa_cons py pa_nil)) rfl rfl h8) (swaps_e rfl)) (pss_one (ps_ox (f := f1) Bs px py rfl))) ?_
      refine ⟨.ref a, rfl, v, rfl, a, C, [v], rfl, (by show 1 ≤ 1000; decide), T, ha, v, rfl, .ref a, rfl, a, C, rfl, T, hno, ha, fun dx n1 n2 => q dx n1 n2⟩
    · cases hc
end Sg
/-! Sg11b: defs with a star parameter; the facts of a class by a check. -/
namespace Sg
open PySem L2
theorem fnS_ok {g : Gx} {T : Tab} {nm : Nm} {x qual : Str} {st : Stmt} {f : Addr} {fd : FuncData} {N ps : List Str} {pv : Str} {body : List S} {lam : Bool} {j : Nat} (fo : FnsOk g T nm) (F : Fun g.B.K x qual st f fd) (S : FnScope N (ps ++ [pv]) (defScope st))
    (hb : ∀ us rest : List Value, us.length = ps.length → bindArgs fd ⟨us ++ rest, []⟩ = (newTuple rest >>= fun t => pure (ps.zip us ++ [(pv, t)])))
    (hlm : lam = true → 2 ≤ j ∧ ∀ cdv, CodeAt g.B.K f cdv → LamT g qual cdv) (hc : chkSs ⟨N, defScope st, fun _ => true, nm, true, lam⟩ body (defBody st) = true) : FnP g.gd g.P g.w g.B.K g.mg g.base (g.lv + 1 + j + 1) f (Prm g.B (fnS T N.length ps.length body)) := by
  obtain ⟨oc, od, kV, doc, pm, an, cdv, ct, osl, rfl, lk, hcd⟩ := F.ex
  intro A outer s H us vs Q E hr hgu e0 r hsp
  obtain ⟨R, F, m, μ, ds, rr, so, rv, e, po⟩ := hsp
  unfold fnS at e
  split at e
  case isFalse => cases e
  rename_i hlen
  have hn : H s.heap.objs.size = none := e0.hok.fresh (Nat.le_refl _)
  have lv : ds.length = vs.length := rv.length
  have lu : vs.length = us.length := r.length
  -- the parameters, the rest
  have eu : us = us.take ps.length ++ us.drop ps.length := (List.take_append_drop _ _).symm
  have l1 : (us.take ps.length).length = ps.length := by
    rw [List.length_take]
    omega
  have rsp : Vals (vs.take ps.length ++ vs.drop ps.length) us := by
    rw [List.take_append_drop]
    exact r
  obtain ⟨u1, u2, eus, r1, r2⟩ := StX.vals_split rsp
  have lu1 : u1.length = ps.length := by
    rw [← r1.length, List.length_take]
    omega
  have lu2 : u2.length ≤ sizeLine := by
    rw [← r2.length, List.length_drop]
    omega
  subst eus
  have rd := RepL.drop ps.length rv
  have rt' := RepL.take ps.length rv
  refine StX.run_bnd (N := N) (ps := ps ++ [pv]) (k := g.lv + 1 + j) lk hcd S hr e0 (G := fun xs H2 => ∃ p, H p = none ∧ xs = vs.take ps.length ++ [V.ref p] ∧ H2 = upd H p (.tup (vs.drop ps.length))) (fun A' Ex Q' h => ?_) fun s2 H2 xs hG hr' => ?_
  · rw [hb u1 u2 lu1]
    refine wpAny_bind (wpAny_newTuple (wpAny_pure ?_) lu2)
    have new : ObjOk g.P g.w (upd H s.heap.objs.size (.tup (vs.drop ps.length))) (s.heap.push ({ cls := .type "tuple", data := .seq u2.toArray } : Obj)) s.heap.objs.size (.tup (vs.drop ps.length)) :=
      ⟨by rw [r2.length]; exact lu2, u2, r2, ⟨_, Heap.get?_push_size _ rfl, rfl, _, rfl⟩⟩
    have un := StX.un_laid (fs := frs outer) (s := s) (o := ({ cls := .type "tuple", data := .seq u2.toArray } : Obj)) (u := .tup (vs.drop ps.length)) hn
    have z := h _ _ (vs.take ps.length ++ [V.ref s.heap.objs.size]) (u1 ++ [Value.ref s.heap.objs.size]) (StX.env0_laid e0 new) un rfl
      (fun e s' => StX.cxUp outer s H _ _ E e s' un (fun b o q => Heap.get?_push_of_some _ q) rfl) (r1.append (.cons rfl .nil))
      (by rw [List.length_append, List.length_append, r1.length, lu1]; rfl) ⟨_, hn, rfl, rfl⟩
    rw [List.zip_append lu1.symm] at z
    exact z
  · obtain ⟨p, hp, rfl, rfl⟩ := hG
    have cx := cx_of (g := g) (outer := outer) (H := upd H p (.tup (vs.drop ps.length))) (E := E) (nm := nm) (qual := qual) (sc := defScope st) (f := f) (cdv := cdv) (A := A) (s := s2) S.nd hr' hgu fun z => ⟨(hlm z).1, (hlm z).2 _ ⟨_, _, lk, rfl, rfl⟩⟩
    obtain ⟨gr0, so0⟩ := so.new (o := .tup (vs.drop ps.length)) hp
    have rv0 : RepL g.B (upd F p (.tup (vs.drop ps.length))) m (ds.take ps.length ++ [.tup (ds.drop ps.length)]) (vs.take ps.length ++ [V.ref p]) :=
      (RepL.mono gr0 _ _ rt').append (RepL.one ⟨p, _, rfl, .inl (.inl upd_same), RepL.mono gr0 _ _ rd⟩)
    refine ⟨_, pss_sss _ _, ?_⟩
    unfold runB at e
    cases q : execL T body (startR N.length (ds.take ps.length ++ [.tup (ds.drop ps.length)])) μ with
    | none =>
      rw [q] at e
      cases e
    | some z =>
      obtain ⟨fl, ρ', μ'⟩ := z
      rw [q] at e
      refine sSs body _ _ _ _ fo cx hc _ _ _ q R _ m _ _ _ so0 (start_ok rv0) fun F' m' σ' H' gr so' ro' => ?_
      have hcut : SOk g.B R F' (m'.take μ.length) (μ'.take μ.length) H' := so'.cut μ.length
      have hm : Grow F m F' (m'.take μ.length) := ⟨gr0.sub.trans gr.sub, fun k a ek => by
        have hk : k < μ.length := by
          rw [← so.len]
          exact (List.getElem?_eq_some_iff.mp ek).1
        rw [List.getElem?_take_of_lt hk]
        exact gr.pre k a ek⟩
      cases fl with
      | ret d =>
        have e : (if d.nr then some (Except.ok d, μ'.take μ.length) else none) = some rr := e
        split at e
        · rename_i hd
          have e := Option.some.inj e
          subst e
          exact fun v rv' => po F' _ H' hm hcut v (Rep.any d v hd rv')
        · cases e
      | next =>
        have e := Option.some.inj e
        subst e
        exact po F' _ H' hm hcut V.non rfl
      | exc x =>
        have e : (if D.nrL x.ds then some (Except.error x, μ'.take μ.length) else none) = some rr := e
        split at e
        · rename_i hd
          have e := Option.some.inj e
          subst e
          refine fun cls dx rx => po F' _ H' cls dx hm hcut ?_
          obtain ⟨ns, h1, h2⟩ := rx
          refine ⟨ns, h1, ?_⟩
          rcases h2 with h2 | ⟨hn, d, vs, h3, h4, h5, h6⟩
          · exact .inl h2
          · exact .inr ⟨hn, d, vs, h3, h4, h5, RepL.any _ _ hd h6⟩
        · cases e
      | brk => cases e
      | cont => cases e
end Sg
/-! Sg11c: the law is asked, nothing being shown; with the tables of the defs that make lambdas. -/
namespace Sg
open PySem PySem.Spec PyProof.Rows L2
/-- a code object in the written part, and its table, which is not -/
def codeB (K : PySem.W.Frag) (cdv : Value) : Option (Addr × Addr) := match cdv with
  | .ref c => match K.lookup c with
    | some ⟨.type "code", _, .fields vs, _⟩ => match vs.getD 11 .none, vs.getD 18 .none, vs.getD 7 .none, vs.getD 9 .none, vs.getD 10 .none with
      | .ref P, .str _ _, .int _ _, .bool _, .int _ _ => if decide (11 < vs.size) && decide (c ≠ P) && (K.lookup P).isNone then some (c, P) else none
      | _, _, _, _, _ => none
    | _ => none
  | _ => none
theorem codeB_ok {K : PySem.W.Frag} {cdv : Value} {c P : Addr} (h : codeB K cdv = some (c, P)) : cdv = .ref c ∧ K.lookup P = none ∧ ∀ hp : Heap, K.In hp → PySem.W.CodeHd hp c P := by
  unfold codeB at h
  split at h
  · rename_i c'
    split at h
    · rename_i od vs sl lk
      split at h
      · rename_i P' file tf fl tg inF tx tt e11 e18 e7 e9 e10
        split at h
        · rename_i hc
          simp only [Bool.and_eq_true, decide_eq_true_eq, Option.isNone_iff_eq_none] at hc
          have h := Option.some.inj h
          cases h
          refine ⟨rfl, hc.2, fun hp KX => ⟨_, vs, file, tf, fl, tg, inF, tx, tt, KX _ _ lk, rfl, rfl, ?_, e11, e18, e7, e9, e10, hc.1.2⟩⟩
          rw [← e11, Array.getD_eq_getD_getElem?, Array.getElem?_eq_getElem hc.1.1]
          rfl
        · cases h
      · cases h
    · cases h
  · cases h
section
variable {P : Program} {w : World} {K : PySem.W.Frag} {mg mb : Str → Option Value} {k : Nat} {fa a : Addr} {sp : Sp} {st : Shared} {vs : List Value} {ns : List Int} {cs : List (Addr × Addr)}
/-- over an abstract heap that tracks the script and the tables at most -/
theorem ask_at {H : Hp} (KX : K.In st.heap) (hg : st.heap.Ns mainGlobals mg) (hb : st.heap.Ns builtinsNs mb) (hbb : ∀ x : Str, x ≠ "__name__" → mb x = bootBuiltins x) (hlim : st.heap.NoLimit) (hgens : st.gens = #[])
    (hbm : ∃ (m : Addr) (ob : Obj), mg "__builtins__" = some (.ref m) ∧ m ≠ builtinsNs ∧ st.heap.get? m = some ob ∧ ob.cls = .type "module" ∧ ob.dict = some builtinsNs ∧ ob.data = .plain)
    (ha : st.heap.get? a = some { cls := .type "list", data := .seq vs.toArray }) (hr : Room k callerA) (hT : ∀ p ∈ cs, st.heap.get? p.2 = some { cls := .none, data := .fields #[] }) (nT : ∀ p ∈ cs, K.lookup p.2 = none) (hC : ∀ p ∈ cs, PySem.W.CodeHd st.heap p.1 p.2)
    (F : ∀ base : Heap, K.In base → base.Ns mainGlobals mg → (∀ p ∈ cs, LamX.TabB base mg p.1 p.2) → FnP true P w K mg base k fa sp) (hsp : sp [.ref a] H (fun v _ => v = .bl true) fun _ _ _ => False)
    (hO : ∀ b, H b = none ∨ (∃ p ∈ cs, p.2 = b) ∨ ∃ o xs, H b = some (.frz o (.lst xs))) (hH : ∀ p ∈ cs, H p.2 = some (.tbl #[])) (hok : HOk P w H st.heap) (hA : ∀ b u, H b = some u → b = a ∨ ∃ p ∈ cs, p.2 = b) (hK : ∀ u, H a = some u → K.lookup a = none) :
    codeAny (model P w) callerA (.call (.ref fa) ⟨[.ref a], []⟩) (fun r s' => r = .ok (.ret (.bool true)) ∧ OldK st.heap s'.heap ∧ s'.os = st.os ∧ AllBare s'.gens) st := by
  -- what is tracked is a sequence or an empty record
  have free : ∀ {b : Addr} {o : Obj}, st.heap.get? b = some o → (∀ us n, o.data ≠ .seq us n) → o.data ≠ .fields #[] → H b = none := by
    intro b o e n1 n2
    cases q : H b with
    | none => rfl
    | some u =>
      rcases hA b u q with z | ⟨p, hp, z⟩
      · subst z
        rw [ha] at e
        cases e
        exact absurd rfl (n1 _ _)
      · subst z
        rw [hT p hp] at e
        cases e
        exact absurd rfl n2
  have keep : ∀ {b : Addr} {o : Obj}, st.heap.get? b = some o → (∀ us n, o.data ≠ .seq us n) → o.data ≠ .fields #[] → (hidT st.heap H).get? b = some o := fun e n1 n2 => hidT_get e (free e n1 n2)
  have ns_in : ∀ {b : Addr} {m : Str → Option Value}, st.heap.Ns b m → (hidT st.heap H).Ns b m := by
    rintro b m ⟨o, es, ep, e, d, r⟩
    exact ⟨o, es, ep, keep e (fun us n z => by rw [d] at z; cases z) (fun z => by rw [d] at z; cases z), d, r⟩
  have k_in : K.In (hidT st.heap H) := by
    intro b o e
    refine hidT_get (KX b o e) ?_
    cases q : H b with
    | none => rfl
    | some u =>
      rcases hA b u q with z | ⟨p, hp, z⟩
      · subst z
        rw [hK u q] at e
        cases e
      · subst z
        rw [nT p hp] at e
        cases e
  have lim : (hidT st.heap H).NoLimit := by
    obtain ⟨mc, h1, h2⟩ := hlim
    exact ⟨mc, ns_in h1, h2⟩
  have md : Mod K mg (hidT st.heap H) := ⟨k_in, ns_in hg, ⟨mb, ns_in hb, hbb⟩, lim⟩
  have tb : ∀ p ∈ cs, LamX.TabB (hidT st.heap H) mg p.1 p.2 := by
    intro p hp
    refine ⟨?_, ?_, fun z => ?_⟩
    · obtain ⟨o, us, f1, f2, f3, f4, f5, f6, f7, e1, r1, r2, r3, r4⟩ := hC p hp
      refine ⟨o, us, f1, f2, f3, f4, f5, f6, f7, keep e1 (fun us n z => by rw [r2] at z; cases z) (fun z => ?_), r1, r2, r3, r4⟩
      rw [r2] at z
      cases z
      simp at r3
    · obtain ⟨m, ob, b1, b2, b3, b4, b5, b6⟩ := hbm
      refine ⟨m, ob, b1, b2, fun q => ?_, fun q => ?_, keep b3 (fun us n z => by rw [b6] at z; cases z) (fun z => by rw [b6] at z; cases z), b4, b5, b6⟩
      · obtain ⟨o, es, ep, e, hd, _⟩ := hg
        rw [q, e] at b3
        cases b3
        rw [hd] at b6
        cases b6
      · rw [q, hT p hp] at b3
        cases b3
        cases b6
    · obtain ⟨o, es, ep, e, hd, _⟩ := hg
      rw [z, hT p hp] at e
      cases e
      cases hd
  have e0 : Env0 P w K mg (hidT st.heap H) callerA [] st H := by
    refine ⟨rfl, md, fun b o e => of_hidT e, Nat.le_of_eq (hidT_size _ _), trivial, fun b hb => ?_, hok, .of_eq hgens⟩
    exact absurd (show b ∈ ([] : List Addr) from hb) (List.not_mem_nil)
  have run := F _ k_in (ns_in hg) tb callerA [] st H [.ref a] [.ref a] _ _ hr (fun _ => rfl) e0 (.cons rfl .nil) hsp
  refine codeAny_mono run fun r s' h => ?_
  cases r with
  | error e =>
    obtain ⟨_, _, _, _, _, _, _, _, _, _, _, _, z⟩ := h
    exact z.elim
  | ok fl =>
    cases fl with
    | ret u =>
      obtain ⟨v, H', os, bare, un, hok', rv, q⟩ := h
      have q : v = .bl true := q
      subst q
      cases (show u = Value.bool true from rv)
      have old : ∀ b o, (¬ ∃ p ∈ cs, p.2 = b) → st.heap.get? b = some o → s'.heap.get? b = some o := by
        intro b o nb e
        cases q : H b with
        | none => exact un.keep b o e q (fun z => absurd (show b ∈ ([] : List Addr) from z) (List.not_mem_nil)) (List.not_mem_nil)
        | some u =>
          rcases hO b with z | z | ⟨ob, xs, z⟩
          · rw [q] at z
            cases z
          · exact absurd z nb
          · have e1 := (hok b _ z).1
            have e2 := (hok' b _ (un.frzs b ob _ z)).1
            rw [e] at e1
            cases e1
            exact e2
      have grown : ∀ p ∈ cs, ∃ more : Array Value, s'.heap.get? p.2 = some { cls := .none, data := .fields more } := fun p hp => by
        obtain ⟨more, z⟩ := un.tbls p.2 #[] (hH p hp)
        exact ⟨_, hok' p.2 _ z⟩
      refine ⟨rfl, ⟨fun b o e => ?_, fun b o e => ?_⟩, os, bare⟩
      · by_cases nb : ∃ p ∈ cs, p.2 = b
        · obtain ⟨p, hp, rfl⟩ := nb
          obtain ⟨more, hm⟩ := grown p hp
          rw [hT p hp] at e
          cases e
          exact .inr (.inl ⟨((hC p hp).tab (hT p hp)).isCodeTable, rfl, #[], more, rfl, by rw [Array.empty_append]; exact hm⟩)
        · exact .inl (old b o nb e)
      · by_cases nb : ∃ p ∈ cs, p.2 = b
        · obtain ⟨p, hp, rfl⟩ := nb
          obtain ⟨more, hm⟩ := grown p hp
          exact ⟨_, hm⟩
        · exact ⟨o, old b o nb e⟩
    | next => exact False.elim h
    | brk => exact False.elim h
    | cont => exact False.elim h
theorem law_ask (KX : K.In st.heap) (hg : st.heap.Ns mainGlobals mg) (hb : st.heap.Ns builtinsNs mb) (hbb : ∀ x : Str, x ≠ "__name__" → mb x = bootBuiltins x) (hlim : st.heap.NoLimit) (hgens : st.gens = #[])
    (hbm : ∃ (m : Addr) (ob : Obj), mg "__builtins__" = some (.ref m) ∧ m ≠ builtinsNs ∧ st.heap.get? m = some ob ∧ ob.cls = .type "module" ∧ ob.dict = some builtinsNs ∧ ob.data = .plain)
    (ha : st.heap.get? a = some { cls := .type "list", data := .seq vs.toArray }) (hi : IntsAre vs ns) (hl : ns.length ≤ sizeLine) (hr : Room k callerA) (hT : ∀ p ∈ cs, st.heap.get? p.2 = some { cls := .none, data := .fields #[] }) (nT : ∀ p ∈ cs, K.lookup p.2 = none) (hC : ∀ p ∈ cs, PySem.W.CodeHd st.heap p.1 p.2)
    (F : ∀ base : Heap, K.In base → base.Ns mainGlobals mg → (∀ p ∈ cs, LamX.TabB base mg p.1 p.2) → FnP true P w K mg base k fa sp)
    (hsp : ∀ H : Hp, (∀ b, H b = none ∨ H b = some (.tbl #[]) ∨ ∃ o xs, H b = some (.frz o (.lst xs))) → (∀ p ∈ cs, H p.2 = some (.tbl #[])) → SqL K H a (ns.map V.int) → sp [.ref a] H (fun v _ => v = .bl true) fun _ _ _ => False) :
    codeAny (model P w) callerA (.call (.ref fa) ⟨[.ref a], []⟩) (fun r s' => r = .ok (.ret (.bool true)) ∧ OldK st.heap s'.heap ∧ s'.os = st.os ∧ AllBare s'.gens) st := by
  classical
  have rv := vals_ints hi
  have lenV := hi.length
  have noT : ¬ ∃ p ∈ cs, p.2 = a := by
    rintro ⟨p, hp, rfl⟩
    have := hT p hp
    rw [ha] at this
    cases this
  let G : Hp := fun b => if ∃ p ∈ cs, p.2 = b then some (.tbl #[]) else none
  have gT : ∀ p ∈ cs, G p.2 = some (.tbl #[]) := fun p hp => if_pos ⟨p, hp, rfl⟩
  have gO : ∀ b u, G b = some u → u = .tbl #[] ∧ ∃ p ∈ cs, p.2 = b := by
    intro b u e
    by_cases hb : ∃ p ∈ cs, p.2 = b
    · have e := (if_pos hb).symm.trans e
      exact ⟨(Option.some.inj e).symm, hb⟩
    · have e := (if_neg hb).symm.trans e
      cases e
  have gok : ∀ b u, G b = some u → ∀ H : Hp, ObjOk P w H st.heap b u := by
    intro b u e H
    obtain ⟨rfl, p, hp, rfl⟩ := gO b u e
    exact hT p hp
  have gS : ∀ b, G b = none ∨ G b = some (.tbl #[]) := fun b => by
    cases q : G b with
    | none => exact .inl rfl
    | some u =>
      obtain ⟨rfl, _⟩ := gO b u q
      exact .inr rfl
  cases hk : K.lookup a with
  | some o =>
    have e := KX a o hk
    rw [ha] at e
    cases e
    refine ask_at (H := G) KX hg hb hbb hlim hgens hbm ha hr hT nT hC F (hsp _ (fun b => (gS b).elim .inl fun q => .inr (.inl q)) gT ?_) (fun b => ?_) gT (fun b u z => gok b u z _) (fun b u z => .inr (gO b u z).2) fun u z => absurd (gO a u z).2 noT
    · exact .inr ⟨_, vs.toArray, _, hk, rfl, rfl, rfl, by rw [List.size_toArray, lenV]; exact hl, by simpa using rv⟩
    · cases q : G b with
      | none => exact .inl rfl
      | some u => exact .inr (.inl (gO b u q).2)
  | none =>
    let u : HO := .frz { cls := .type "list", data := .seq vs.toArray } (.lst (ns.map V.int))
    have at_a : (upd G a u) a = some u := upd_same
    have off : ∀ b x, (upd G a u) b = some x → (b = a ∧ x = u) ∨ (b ≠ a ∧ G b = some x) := by
      intro b x e
      by_cases hb : b = a
      · subst hb
        rw [upd_same] at e
        exact .inl ⟨rfl, (Option.some.inj e).symm⟩
      · rw [upd_ne hb] at e
        exact .inr ⟨hb, e⟩
    have gT' : ∀ p ∈ cs, (upd G a u) p.2 = some (.tbl #[]) := fun p hp => by
      rw [upd_ne fun z => noT ⟨p, hp, z⟩]
      exact gT p hp
    refine ask_at (H := upd G a u) KX hg hb hbb hlim hgens hbm ha hr hT nT hC F (hsp _ (fun b => ?_) gT' (.inl (.inr ⟨_, at_a⟩))) (fun b => ?_) gT' (fun b x e => ?_) (fun b x e => ?_) fun _ _ => hk
    · by_cases hb : b = a
      · subst hb
        exact .inr (.inr ⟨_, _, at_a⟩)
      · rw [upd_ne hb]
        exact (gS b).elim .inl fun q => .inr (.inl q)
    · by_cases hb : b = a
      · subst hb
        exact .inr (.inr ⟨_, _, at_a⟩)
      · rw [upd_ne hb]
        cases q : G b with
        | none => exact .inl rfl
        | some x => exact .inr (.inl (gO b x q).2)
    · rcases off b x e with ⟨rfl, rfl⟩ | ⟨_, q⟩
      · exact ⟨ha, by rw [List.length_map]; exact hl, vs, _, rv, ha⟩
      · exact gok b x q _
    · rcases off b x e with ⟨rfl, _⟩ | ⟨_, q⟩
      · exact .inl rfl
      · exact .inr (gO b x q).2
end
/-- the defs that make lambdas, their code objects and tables -/
def TabsAt (K : PySem.W.Frag) (mg : Str → Option Value) : List Str → List (Addr × Addr) → Prop := Paired fun x p => ∃ f o fd, mg x = some (.ref f) ∧ K.lookup f = some o ∧ o.data = .func fd ∧ codeB K fd.code = some p
/-- the goal that the head leaves, from the law's promise -/
theorem walk_ask {l : PySem.W.OpenLaw} {n k : Nat} {q : Program} {loose : List Str} {XP : (Str → Option Value) → Heap → Prop} {YP : World → Heap → Prop} {d : DefRec} {K : Params → PySem.W.Frag} {sp : World → List (Addr × Addr) → Sp} {ls : List Str}
    (hn : l.most = some n) (hn2 : n ≤ sizeLine) (hdf : d.params.defaults = []) (hr : Room k callerA) (hY : ∀ (w : World) (h : Heap), YP w h → (K w.params).In h) (hrec : (ls.all fun x => (recsOf q).any fun e => e.name == x) = true)
    (F : ∀ (w : World) (mg : Str → Option Value) (fa : Addr) (h : Heap), (K w.params).In h → h.Ns mainGlobals mg → mg d.name = some (.ref fa) → ∃ cs, TabsAt (K w.params) mg ls cs ∧
      ∀ base : Heap, (K w.params).In base → base.Ns mainGlobals mg → (∀ p ∈ cs, LamX.TabB base mg p.1 p.2) → FnP true l.prog w (K w.params) mg base k fa (sp w cs))
    (hsp : ∀ (w : World) (cs : List (Addr × Addr)) (H : Hp) (a : Addr) (ns : List Int), ns.length ≤ n → (∀ b, H b = none ∨ H b = some (.tbl #[]) ∨ ∃ o xs, H b = some (.frz o (.lst xs))) → (∀ p ∈ cs, H p.2 = some (.tbl #[])) → SqL (K w.params) H a (ns.map V.int) → sp w cs [.ref a] H (fun v _ => v = .bl true) fun _ _ _ => False) :
    PySem.W.WalkO q loose XP YP l.row.toRowW d [] (fun f vs => PySem.call f vs) := by
  refine Att.attach_call hn hdf fun w s0 s1 mg mb fa o pm cd doc a vs ns G Y ho hd hcd hmg hobj hints hlen hg => ?_
  have KX := hY w _ Y
  obtain ⟨cs, hcs, hF⟩ := F w mg fa _ KX G.T.g hmg
  have at_ : ∀ {ls : List Str} {cs : List (Addr × Addr)}, TabsAt (K w.params) mg ls cs → (∀ x ∈ ls, ((recsOf q).any fun e => e.name == x) = true) → ∀ p ∈ cs, s1.heap.get? p.2 = some { cls := .none, data := .fields #[] } ∧ (K w.params).lookup p.2 = none ∧ PySem.W.CodeHd s1.heap p.1 p.2 := by
    intro ls cs h
    unfold TabsAt at h
    induction h with
    | nil =>
      intro _ p hp
      cases hp
    | @cons x p0 ls cs hx hr ih =>
      intro hall p hp
      rcases List.mem_cons.mp hp with e | hp
      · subst e
        obtain ⟨f, o1, fd1, h1, h2, h3, h4⟩ := hx
        obtain ⟨ec, hn, hc⟩ := codeB_ok (c := p.1) (P := p.2) h4
        refine ⟨?_, hn, hc _ KX⟩
        obtain ⟨dL, hm, hn1⟩ := List.any_eq_true.mp (hall x List.mem_cons_self)
        have hn2 : dL.name = x := beq_iff_eq.mp hn1
        obtain ⟨a', o', fd', c', P', t1, t2, t3, t4, t5, t6⟩ := G.T.tab dL hm
        rw [hn2, h1] at t1
        cases t1
        have g1 := KX _ _ h2
        rw [g1] at t2
        cases t2
        rw [h3] at t3
        cases t3
        rw [ec] at t4
        cases t4
        obtain ⟨⟨oc, vc, z1, _, z3, z4⟩, hP⟩ := t6
        obtain ⟨o2, us, f1, f2, f3, f4, f5, f6, f7, y1, y2, y3, y4, y5⟩ := hc _ KX
        rw [y1] at z1
        cases z1
        rw [y3] at z3
        cases z3
        rw [y4] at z4
        cases z4
        exact hP
      · exact ih (fun y hy => hall y (List.mem_cons_of_mem _ hy)) p hp
  have at_ := at_ hcs (List.all_eq_true.mp hrec)
  exact law_ask KX G.T.g G.T.b G.T.builtins G.T.nolimit hg G.T.bmain hobj hints (Nat.le_trans hlen hn2) hr (fun p hp => (at_ p hp).1) (fun p hp => (at_ p hp).2.1) (fun p hp => (at_ p hp).2.2) hF fun H hO hT hS => hsp w cs H a ns hlen hO hT hS
end Sg
/-! Sg11d: the facts of a class, by a check over the written part. -/
namespace Sg
open PySem L2
def metB (K : PySem.W.Frag) (a : Addr) (C : Cl) (fa : List Addr) (p : Str × Nat) : Bool := match fa[p.2]? with
  | some f => decide (p.1 ∉ C.fs) && (PySem.W.findIn K (.ref a) p.1 == some (some (.ref f))) && PySem.W.isFn K (.ref f) && PySem.W.keepIn K (.ref f) && PySem.W.fnIn K f
  | none => false
def prpB (K : PySem.W.Frag) (a : Addr) (fa : List Addr) (p : Str × Nat) : Bool := match fa[p.2]?, PySem.W.findIn K (.ref a) p.1 with
  | some f, some (some (.ref q)) => (PySem.W.specialIn K (.ref q) "__get__" == some (some (.builtin "property.__get__"))) && (PySem.W.takesIn K (.ref q) == some true) && (match PySem.W.recIn K q "property" with
    | some (v :: _) => v == .ref f
    | _ => false)
  | _, _ => false
def clmB (K : PySem.W.Frag) (a : Addr) (fa : List Addr) (p : Str × Nat) : Bool := match fa[p.2]?, PySem.W.findIn K (.ref a) p.1 with
  | some f, some (some (.ref q)) => PySem.W.readsIn K a (.type "type") && (PySem.W.specialIn K (.ref a) "__getattribute__" == some (some (.builtin "type.__getattribute__"))) && (match PySem.W.findCls K (.ref a) (.type "type") p.1 with
    | some (.get x y z t) => x == .builtin "classmethod.__get__" && y == .ref q && z == .none && t == .ref a
    | _ => false) && (match PySem.W.recIn K q "classmethod" with
    | some (v :: _) => v == .ref f
    | _ => false) && PySem.W.fnIn K f
  | _, _ => false
def iniB (K : PySem.W.Frag) (a : Addr) (C : Cl) (fa : List Addr) : Bool := match fa[C.ini]? with
  | some f => PySem.W.makesIn K a && (PySem.W.findIn K (.ref a) "__init__" == some (some (.ref f))) && PySem.W.isFn K (.ref f) && PySem.W.keepIn K (.ref a)
  | none => false
def clsB (K : PySem.W.Frag) (a : Addr) : Bool := PySem.W.plainGet K a Str.empty && PySem.W.hasDictIn K a && PySem.W.plainOver K a && (PySem.W.findIn K (.ref a) "__setattr__" == some (some (.builtin "object.__setattr__")))
def isiB (K : PySem.W.Frag) (a : Addr) : Bool := (PySem.W.findIn K (.ref a) "__class__" == some (some (.builtin "object.__class__"))) && (PySem.W.specialIn K (.builtin "object.__class__") "__get__" == some (some (.builtin "getset_descriptor.__get__"))) &&
  (PySem.W.takesIn K (.builtin "object.__class__") == some true) && (PySem.W.mroIn K a (.type "object") == some true)
def clB (K : PySem.W.Frag) (a : Addr) (C : Cl) (fa : List Addr) : Bool := clsB K a && C.fs.all (fun x => PySem.W.findIn K (.ref a) x == some none) && decide C.fs.Nodup && decide (C.fs.length ≤ 900) && iniB K a C fa && C.ms.all (metB K a C fa) && C.ps.all (prpB K a fa) && C.cs.all (clmB K a fa) &&
  isiB K a && PySem.W.selfFirst K a && PySem.W.notFirst K a (.ref a) && PySem.W.noSeq K a
theorem lookup_mem {x : Str} {i : Nat} : ∀ {l : List (Str × Nat)}, l.lookup x = some i → (x, i) ∈ l
  | [], h => by cases h
  | (y, j) :: l, h => by
    rw [List.lookup_cons] at h
    by_cases q : x = y
    · subst q
      simp at h
      subst h
      exact List.mem_cons_self
    · have qb : (x == y) = false := beq_eq_false_iff_ne.mpr q
      rw [qb] at h
      exact List.mem_cons_of_mem _ (lookup_mem h)
theorem clsB_ok {K : PySem.W.Frag} {a : Addr} (h : clsB K a = true) : L2.Cls K a := by
  unfold clsB at h
  simp only [Bool.and_eq_true, beq_iff_eq] at h
  exact ⟨h.1.1.1, h.1.1.2, h.1.2, h.2⟩
theorem isiB_ok {K : PySem.W.Frag} {a : Addr} (h : isiB K a = true) : SlX.SIsi K a := by
  unfold isiB at h
  simp only [Bool.and_eq_true, beq_iff_eq] at h
  exact ⟨h.1.1.1, h.1.1.2, h.1.2, h.2⟩
theorem clB_ok {K : PySem.W.Frag} {a : Addr} {C : Cl} {fa : List Addr} (h : clB K a C fa = true) : ClOk K a C fa := by
  unfold clB at h
  simp only [Bool.and_eq_true, List.all_eq_true, decide_eq_true_eq] at h
  obtain ⟨⟨⟨⟨⟨⟨⟨⟨⟨⟨⟨h1, h2⟩, h3⟩, h4⟩, h5⟩, h6⟩, h7⟩, h8⟩, h9⟩, k1⟩, k2⟩, k3⟩ := h
  refine ⟨clsB_ok h1, fun x hx => beq_iff_eq.mp (h2 x hx), h3, h4, ?_, fun x i e => ?_, fun x i e => ?_, fun x i e => ?_, isiB_ok h9, k1, k2, k3⟩
  · unfold iniB at h5
    split at h5
    · rename_i f hf
      simp only [Bool.and_eq_true, beq_iff_eq] at h5
      exact ⟨f, hf, h5.1.1.1, h5.1.1.2, h5.1.2, h5.2⟩
    · cases h5
  · have q := h6 _ (lookup_mem e)
    unfold metB at q
    split at q
    · rename_i f hf
      simp only [Bool.and_eq_true, beq_iff_eq, decide_eq_true_eq] at q
      exact ⟨f, hf, q.1.1.1.1, ⟨q.1.1.1.2, q.1.1.2, q.1.2⟩, q.2⟩
    · cases q
  · have q := h7 _ (lookup_mem e)
    unfold prpB at q
    split at q
    · rename_i f p hf hp
      simp only [Bool.and_eq_true, beq_iff_eq] at q
      obtain ⟨⟨q1, q2⟩, q3⟩ := q
      split at q3
      · rename_i v rest hr
        have q3 := beq_iff_eq.mp q3
        subst q3
        exact ⟨f, hf, p, hp, q1, q2, rest, hr⟩
      · cases q3
    · cases q
  · have q := h8 _ (lookup_mem e)
    unfold clmB at q
    split at q
    · rename_i f p hf hp
      simp only [Bool.and_eq_true, beq_iff_eq] at q
      obtain ⟨⟨⟨⟨q1, q2⟩, q3⟩, q4⟩, q5⟩ := q
      split at q3
      · rename_i x1 y1 z1 t1 hc
        simp only [Bool.and_eq_true, beq_iff_eq] at q3
        obtain ⟨⟨⟨rfl, rfl⟩, rfl⟩, rfl⟩ := q3
        split at q4
        · rename_i v rest hr
          have q4 := beq_iff_eq.mp q4
          subst q4
          exact ⟨f, hf, p, .type "type", ⟨q1, q2⟩, hc, ⟨rest, hr⟩, q5⟩
        · cases q4
      · cases q3
    · cases q
/-- the classes of a text, all that FnsOk wants of them -/
def allB (K : PySem.W.Frag) (as : List Addr) (cl : List Cl) (fa : List Addr) : Bool := (as.zip cl).all (fun p => clB K p.1 p.2 fa) && decide (as.length = cl.length) &&
  as.all (fun a => tyNames7.all fun t => PySem.W.kitOne K (.type t) (.ref a) == some false) && as.all (fun a => tyNames.all fun t => PySem.W.kitOne K (.ref a) (.type t) == some false) && decide as.Nodup &&
  as.all (fun a => as.all fun b => PySem.W.kitOne K (.ref a) (.ref b) == some (a == b))
end Sg
/-! Sg11e: the start: no def yet, all names. -/
namespace Sg
open PySem L2
def clsOf (as : List Addr) (cl : List Cl) : List (Addr × List Str) := List.zipWith (fun a C => (a, C.fs)) as cl
theorem clsOf_at {as : List Addr} {cl : List Cl} {c : Nat} {a : Addr} {ns : List Str} (h : (clsOf as cl)[c]? = some (a, ns)) : as[c]? = some a ∧ ∃ C, cl[c]? = some C ∧ C.fs = ns := by
  unfold clsOf at h
  rw [List.getElem?_zipWith] at h
  cases e1 : as[c]? with
  | none =>
    rw [e1] at h
    cases h
  | some b =>
    cases e2 : cl[c]? with
    | none =>
      rw [e1, e2] at h
      cases h
    | some C =>
      rw [e1, e2] at h
      have h := Option.some.inj h
      have h1 := (Prod.mk.inj h).1
      have h2 := (Prod.mk.inj h).2
      subst h1
      exact ⟨rfl, C, rfl, h2⟩
theorem fns0 {gd : Bool} {P : Program} {w : World} {mg : Str → Option Value} {base : Heap} {K : PySem.W.Frag} {fa as : List Addr} {cs : List D} {cl : List Cl} {nm : Nm} {xc : List (Value × List Str)} {tbs : List (Addr × Str)} {ca : List Cat} {xs : List Xc} (h : allB K as cl fa = true)
    (hgn : ∀ (i : Nat) (x : Str), nm.fns[i]? = some x → x ≠ "" → ∃ f, fa[i]? = some f ∧ mg x = some (.ref f) ∧ PySem.W.keepIn K (.ref f) = true)
    (hcon : ∀ (i : Nat) (d : D) (x : Str), cs[i]? = some d → nm.cons[i]? = some x → ∃ u v, mg x = some u ∧ RelV v u ∧ ∀ F m, Rep ⟨K, clsOf as cl, xc, tbs⟩ F m d v)
    (hcln : ∀ (c : Nat) (x : Str), nm.cls[c]? = some x → ∃ a, as[c]? = some a ∧ mg x = some (.ref a)) (hblt : ∀ x ∈ bltNames, mg x = none) (hgd : nm.gd = true → gd = true) (hxt : XtOk ⟨gd, P, w, mg, base, ⟨K, clsOf as cl, xc, tbs⟩, 1, fa⟩ ⟨[], ca, xs⟩ nm.x) :
    FnsOk ⟨gd, P, w, mg, base, ⟨K, clsOf as cl, xc, tbs⟩, 1, fa⟩ ⟨[], cs, cl, ⟨[], ca, xs⟩⟩ nm := by
  unfold allB at h
  simp only [Bool.and_eq_true, List.all_eq_true, decide_eq_true_eq, beq_iff_eq] at h
  obtain ⟨⟨⟨⟨⟨h1, h2⟩, h3⟩, h4⟩, h5⟩, h6⟩ := h
  have mem_of : ∀ {c : Nat} {a : Addr}, as[c]? = some a → a ∈ as := fun e => List.mem_of_getElem? e
  have ok_at : ∀ {c : Nat} {a : Addr} {C : Cl}, as[c]? = some a → cl[c]? = some C → ClOk K a C fa := fun {c a C} e1 e2 => by
    refine clB_ok (h1 (a, C) (List.mem_of_getElem? (i := c) ?_))
    rw [List.getElem?_zip_eq_some]
    exact ⟨e1, e2⟩
  refine ⟨fun i t e => by simp at e, hgn, hcon, fun c C e => ?_, fun c a ns e => ?_, fun c x e => ?_, fun c c' a a' ns ns' e e' => ?_, fun c a ns e t ht => ?_, fun c a ns e t ht => ?_, fun c a ns e => ?_, hblt, hgd, (fun i t e => by simp at e), hxt, Nat.le_refl _⟩
  · have e : cl[c]? = some C := e
    have hl : c < as.length := by
      rw [h2]
      exact (List.getElem?_eq_some_iff.mp e).1
    have ea : as[c]? = some as[c] := List.getElem?_eq_getElem hl
    refine ⟨as[c], ?_, ok_at ea e⟩
    show (clsOf as cl)[c]? = _
    unfold clsOf
    rw [List.getElem?_zipWith, ea, e]
  · obtain ⟨e1, C, e2, _⟩ := clsOf_at e
    obtain ⟨f, _, hM⟩ := (ok_at e1 e2).ini
    exact hM.kp
  · obtain ⟨a, ea, hm⟩ := hcln c x e
    have hl : c < cl.length := by
      rw [← h2]
      exact (List.getElem?_eq_some_iff.mp ea).1
    have ec : cl[c]? = some cl[c] := List.getElem?_eq_getElem hl
    refine ⟨a, cl[c].fs, ?_, hm⟩
    show (clsOf as cl)[c]? = _
    unfold clsOf
    rw [List.getElem?_zipWith, ea, ec]
  · obtain ⟨e1, _⟩ := clsOf_at e
    obtain ⟨e2, _⟩ := clsOf_at e'
    have q := h6 a (mem_of e1) a' (mem_of e2)
    have eq1 : (a == a') = decide (c = c') := by
      by_cases hc : c = c'
      · subst hc
        rw [e1] at e2
        cases e2
        simp
      · have hne : a ≠ a' := fun ea => by
          subst ea
          exact hc (nodup_at h5 e1 e2)
        rw [beq_eq_false_iff_ne.mpr hne, decide_eq_false hc]
    rw [← eq1]
    exact q
  · obtain ⟨e1, _⟩ := clsOf_at e
    exact h3 a (mem_of e1) t ht
  · obtain ⟨e1, _⟩ := clsOf_at e
    exact h4 a (mem_of e1) t ht
  · obtain ⟨e1, C, e2, _⟩ := clsOf_at e
    exact ⟨(ok_at e1 e2).cls, (ok_at e1 e2).isi⟩
/-! ### constants that are tuples -/
def fltB : Value → D → Bool
  | .str x _, .str y => decide (x = y)
  | .int i _, .int j => decide (i = j)
  | _, _ => false
def fltsB : List Value → List D → Bool
  | [], [] => true
  | u :: us, d :: ds => fltB u d && fltsB us ds
  | _, _ => false
def conB (K : PySem.W.Frag) (u : Value) (d : D) : Bool := match u, d with
  | .ref a, .tup ds => (match K.lookup a with
    | some ⟨.type "tuple", _, .seq its _, _⟩ => decide (its.size ≤ sizeLine) && fltsB its.toList ds
    | _ => false)
  | u, d => fltB u d
theorem fltB_ok {u : Value} {d : D} (h : fltB u d = true) : ∃ v, RelV v u ∧ ∀ B F m, Rep B F m d v := by
  unfold fltB at h
  split at h
  · have h := of_decide_eq_true h
    subst h
    exact ⟨.str _, ⟨_, rfl⟩, fun _ _ _ => rfl⟩
  · have h := of_decide_eq_true h
    subst h
    exact ⟨.int _, ⟨_, rfl⟩, fun _ _ _ => rfl⟩
  · cases h
theorem fltsB_ok : ∀ {us : List Value} {ds : List D}, fltsB us ds = true → ∃ vs, Vals vs us ∧ ∀ B F m, RepL B F m ds vs
  | [], [], _ => ⟨[], .nil, fun _ _ _ => rfl⟩
  | [], _ :: _, h => by cases h
  | _ :: _, [], h => by cases h
  | u :: us, d :: ds, h => by
    simp only [fltsB, Bool.and_eq_true] at h
    obtain ⟨v, r1, r2⟩ := fltB_ok h.1
    obtain ⟨vs, q1, q2⟩ := fltsB_ok h.2
    exact ⟨v :: vs, .cons r1 q1, fun B F m => ⟨v, vs, rfl, r2 B F m, q2 B F m⟩⟩
theorem conB_ok {K : PySem.W.Frag} {u : Value} {d : D} (h : conB K u d = true) : ∃ v, RelV v u ∧ ∀ B : Bk, B.K = K → ∀ F m, Rep B F m d v := by
  unfold conB at h
  split at h
  · rename_i a ds
    split at h
    · rename_i dd its n sl lk
      rw [Bool.and_eq_true] at h
      obtain ⟨vs, q1, q2⟩ := fltsB_ok h.2
      refine ⟨.ref a, rfl, fun B hB F m => ⟨a, vs, rfl, .inr ⟨_, its, n, by rw [hB]; exact lk, rfl, rfl, of_decide_eq_true h.1, q1⟩, q2 B F m⟩⟩
    · cases h
  · obtain ⟨v, r1, r2⟩ := fltB_ok h
    exact ⟨v, r1, fun B _ F m => r2 B F m⟩
/-! ### exceptions, lambdas -/
def excOf (Cs : List Addr) (xs : List Xc) : List (Value × List Str) := List.zipWith (fun C k => (Value.ref C, k.att.toList)) Cs xs
def xc0B (K : PySem.W.Frag) (C : Addr) : Bool := PySem.W.keepIn K (.ref C) && (PySem.W.subIn K (.ref C) (.type "BaseException") == some true) && (PySem.W.typeIn K (.ref C) == some (.type "type")) && PySem.W.excIn K C HandSPX.veTail "ValueError.__new__" &&
  (PySem.W.findIn K (.ref C) "__getattribute__" == some (some (.builtin "BaseException.__getattribute__"))) && (PySem.W.findIn K (.ref C) "__getattr__" == some none) && PySem.W.hasDictIn K C && (PySem.W.findIn K (.ref C) "__class__" == some (some (.builtin "object.__class__"))) &&
  (PySem.W.specialIn K (.builtin "object.__class__") "__get__" == some (some (.builtin "getset_descriptor.__get__"))) && (PySem.W.takesIn K (.builtin "object.__class__") == some true) && (PySem.W.mroIn K C (.type "object") == some true) && (PySem.W.subIn K (.ref C) (.type "AttributeError") == some false)
theorem xc0_ok {g : Gx} {c : Nat} {x : Str} {C : Addr} {up : List Nat} (hm : g.mg x = some (.ref C)) (hb : g.B.exc[c]? = some (.ref C, [])) (h : xc0B g.B.K C = true) : XcOk g c ⟨none, up⟩ x C := by
  unfold xc0B at h
  simp only [Bool.and_eq_true, beq_iff_eq] at h
  obtain ⟨⟨⟨⟨⟨⟨⟨⟨⟨⟨⟨h1, h2⟩, h3⟩, h4⟩, h5⟩, h6⟩, h7⟩, h8⟩, h9⟩, h10⟩, h11⟩, h12⟩ := h
  exact ⟨hm, hb, h1, h2, h3, fun _ => ⟨_, _, _, _, F.excBase_ValueError, h4⟩, (fun f e => by cases e), fun _ => ⟨h5, h6, h2, h7, h8, h9, h10, h11⟩, h12⟩
/-- the built-in classes that own ones stand on -/
def bsAt : Nat → String × String × String × List Value
  | 0 => ("IndexError", "IndexError.__new__", "IndexError.__init__", [.type "IndexError", .type "LookupError", .type "Exception", .type "BaseException", .type "object"])
  | 1 => ("LookupError", "LookupError.__new__", "LookupError.__init__", [.type "LookupError", .type "Exception", .type "BaseException", .type "object"])
  | 2 => ("OverflowError", "OverflowError.__new__", "OverflowError.__init__", [.type "OverflowError", .type "ArithmeticError", .type "Exception", .type "BaseException", .type "object"])
  | _ => ("ArithmeticError", "ArithmeticError.__new__", "ArithmeticError.__init__", [.type "ArithmeticError", .type "Exception", .type "BaseException", .type "object"])
theorem bs_at : ∀ b : Nat, BsOk (bsAt b).1 (bsAt b).2.1 (bsAt b).2.2.1 (bsAt b).2.2.2
  | 0 => bs_index
  | 1 => bs_lookup
  | 2 => bs_overflow
  | _ + 3 => bs_arith
def oxB (K : PySem.W.Frag) (C : Addr) (nI : String) (tl : List Value) : Bool := (match K.lookup C with
  | some ⟨.type "type", _, .cls cd, sl⟩ => (match cd.mro, sl.toList with
    | .ref C' :: bm, [_, _, _, _, some (.builtin n), _] => C' == C && n == nI && !cd.hasDel && cd.hasDict && bm == tl
    | _, _ => false)
  | _ => false) && (PySem.W.findIn K (.ref C) "__setattr__" == some (some (.builtin "object.__setattr__"))) && (PySem.W.subIn K (.ref C) (.type "BaseException") == some true) && (PySem.W.typeIn K (.ref C) == some (.type "type")) && PySem.W.keepIn K (.ref C)
theorem oxB_ok {K : PySem.W.Frag} {C : Addr} {nI : String} {tl : List Value} (h : oxB K C nI tl = true) : OxC K C nI tl := by
  unfold oxB at h
  simp only [Bool.and_eq_true, beq_iff_eq] at h
  obtain ⟨⟨⟨⟨h, h2⟩, h3⟩, h4⟩, h5⟩ := h
  refine ⟨?_, h2, h3, h4, h5⟩
  split at h
  · rename_i dd cd sl ho
    split at h
    · rename_i C' bm k0 k1 k2 k3 n k5 hm hs
      simp only [Bool.and_eq_true, beq_iff_eq, Bool.not_eq_true'] at h
      obtain ⟨⟨⟨⟨rfl, rfl⟩, hdel⟩, hd⟩, rfl⟩ := h
      obtain ⟨nm, bs, mro, ns, qn, hd', sn, sub, ab, col, del⟩ := cd
      dsimp only at hm hdel hd
      subst hm hdel hd
      have hsl : sl = #[k0, k1, k2, k3, some (.builtin n), k5] := by
        obtain ⟨l⟩ := sl
        simp only at hs
        rw [hs]
      subst hsl
      exact ⟨nm, qn, ns, bs, sn, sub, ab, col, dd, k0, k1, k2, k3, k5, ho⟩
    · cases h
  · cases h
def xc1B (K : PySem.W.Frag) (C fI : Addr) (f : Str) (b : Nat) : Bool := (PySem.W.subIn K (.ref C) (.type "AttributeError") == some false) && oxB K C (bsAt b).2.1 (bsAt b).2.2.2 && xfB K C && (PySem.W.findIn K (.ref C) f == some none) && (PySem.W.findIn K (.ref C) "__init__" == some (some (.ref fI))) && (PySem.W.typeIn K (.ref fI) == some (.type "function")) &&
  (match PySem.W.findCls K (.type (bsAt b).1) (.type "type") "__init__" with
    | some (.val v) => v == .builtin (bsAt b).2.2.1
    | _ => false)
theorem xc1_ok {g : Gx} {c b : Nat} {x f qual p q : Str} {C fI : Addr} {up : List Nat} {st : Stmt} {fd : FuncData} (hm : g.mg x = some (.ref C)) (hb : g.B.exc[c]? = some (.ref C, [f])) (h : xc1B g.B.K C fI f b = true) (F : Fun g.B.K "__init__" qual st fI fd) (S : FnScope [p, q] [p, q] (defScope st))
    (hbd : Binds g.B.K fd [p, q] []) (hmb : g.mg (Str.ofString (bsAt b).1) = none) (hc : chkIni (Str.ofString (bsAt b).1) f p q (defScope st) (defBody st) = true) : XcOk g c ⟨some f, up⟩ x C := by
  unfold xc1B at h
  simp only [Bool.and_eq_true, beq_iff_eq] at h
  obtain ⟨⟨⟨⟨⟨⟨h0, h1⟩, h2⟩, h3⟩, h4⟩, h5⟩, h6⟩ := h
  have ox := oxB_ok h1
  refine ⟨hm, hb, ox.kp, ox.ex, ox.ty, (fun e => by cases e), fun f' e => ?_, (fun e => by cases e), h0⟩
  cases e
  split at h6
  · rename_i v hv
    have h6 := beq_iff_eq.mp h6
    subst h6
    exact ⟨xfB_ok h2, h3, _, _, _, _, fI, bs_at b, ox, h4, h5, ini_ok F S hbd (bs_at b) ox h3 hv hmb hc⟩
  · cases h6
/-- of which class each is -/
def xmB (K : PySem.W.Frag) (Cs : List Addr) (xs : List Xc) : Bool := (List.range xs.length).all fun i => (List.range xs.length).all fun j => match Cs[i]?, Cs[j]?, xs[i]? with
  | some C, some C', some k => (PySem.W.exmOne K (.ref C) (.ref C') == some (decide (j ∈ k.up))) && (PySem.W.kitOne K (.ref C) (.ref C') == some (decide (j ∈ k.up)))
  | _, _, _ => false
theorem excOf_at {Cs : List Addr} {xs : List Xc} {c : Nat} {p : Value × List Str} (h : (excOf Cs xs)[c]? = some p) : ∃ C k, Cs[c]? = some C ∧ xs[c]? = some k ∧ p = (.ref C, k.att.toList) := by
  unfold excOf at h
  rw [List.getElem?_zipWith] at h
  cases e1 : Cs[c]? with
  | none =>
    rw [e1] at h
    cases h
  | some C =>
    cases e2 : xs[c]? with
    | none =>
      rw [e1, e2] at h
      cases h
    | some k =>
      rw [e1, e2] at h
      have h := Option.some.inj h
      exact ⟨C, k, rfl, rfl, h.symm⟩
theorem xt_mk {g : Gx} {T : TabX} {n : NmX} {Cs : List Addr} (hx : ∀ (c : Nat) (k : Xc), T.xcs[c]? = some k → ∃ x C, n.xns[c]? = some x ∧ XcOk g c k x C) (hl : n.xns.length = T.xcs.length) (he : g.B.exc = excOf Cs T.xcs) (hm : xmB g.B.K Cs T.xcs = true) (hc : ∀ (i : Nat) (c : Cat), T.cats[i]? = some c → ∃ x, n.cats[i]? = some x ∧ CatOk g n x c) : XtOk g T n := by
  refine ⟨hx, fun c x e => ?_, fun c c' k C C' ns ns' e1 e2 e3 => ?_, fun c p e => ?_, hc⟩
  · have h := (List.getElem?_eq_some_iff.mp e).1
    rw [hl] at h
    exact ⟨_, List.getElem?_eq_getElem h⟩
  · rw [he] at e2 e3
    obtain ⟨C1, k1, a1, a2, a3⟩ := excOf_at e2
    obtain ⟨C2, k2, b1, b2, b3⟩ := excOf_at e3
    cases a3
    cases b3
    rw [e1] at a2
    cases a2
    unfold xmB at hm
    rw [List.all_eq_true] at hm
    have h := hm c (List.mem_range.mpr (List.getElem?_eq_some_iff.mp e1).1)
    rw [List.all_eq_true] at h
    have h := h c' (List.mem_range.mpr (List.getElem?_eq_some_iff.mp b2).1)
    rw [a1, b1, e1] at h
    simp only [Bool.and_eq_true, beq_iff_eq] at h
    exact h
  · rw [he] at e
    obtain ⟨C, k, _, h, _⟩ := excOf_at e
    exact ⟨k, h⟩
/-- the table of a def -/
theorem lam_of {g : Gx} {qual : Str} {f : Addr} {o : Obj} {fd : FuncData} {c P : Addr} (i : Nat) (h : g.B.tabs[i]? = some (P, lname qual)) (nd : (g.B.tabs.map (·.1)).Nodup) (tb : LamX.TabB g.base g.mg c P) (hf : g.B.K.lookup f = some o) (hd : o.data = .func fd) (hc : codeB g.B.K fd.code = some (c, P)) :
    ∀ cdv, CodeAt g.B.K f cdv → LamT g qual cdv := by
  rintro cdv ⟨o', fd', h1, h2, h3⟩
  rw [hf] at h1
  cases h1
  rw [hd] at h2
  cases h2
  refine ⟨c, P, tb, ?_, List.mem_of_getElem? h, fun p hp e => ?_⟩
  · rw [← h3]
    exact (codeB_ok hc).1
  · obtain ⟨j, hj, ej⟩ := List.mem_iff_getElem.mp hp
    have e1 : (g.B.tabs.map (·.1))[i]? = some P := by rw [List.getElem?_map, h]; rfl
    have e2 : (g.B.tabs.map (·.1))[j]? = some P := by
      rw [List.getElem?_map, List.getElem?_eq_getElem hj, ej, ← e]
      rfl
    have := nodup_at nd e1 e2
    subst this
    rw [List.getElem?_eq_getElem hj, ej] at h
    cases h
    rfl
end Sg
/-! Sw: the evaluator's steps as equations, for plain reasoning about what a def does. -/
namespace Sg
open PySem L2
def wp {α : Type} (x : M α) (μ : Store) (Q : α → Store → Prop) (E : Exc → Store → Prop) : Prop := match x μ with
  | some (.ok a, μ') => Q a μ'
  | some (.error e, μ') => E e μ'
  | none => False
def ws (r : Option (Fl × Rho × Store)) (Q : Fl → Rho → Store → Prop) : Prop := match r with
  | some (f, ρ, μ) => Q f ρ μ
  | none => False
/-- the value of an option -/
def wo {α : Type} (o : Option α) (P : α → Prop) : Prop := match o with
  | some a => P a
  | none => False
/-- a built-in function, also len of an object -/
def bltT (T : Tab) (b : Blt) (ds : List D) : M D := fun μ => match b, ds with
    | .len, [.ins c fs] => (match opN T μ "__len__" (.ins c fs) with
      | some f => bd (callT T f [.ins c fs]) (fun d => match d with
        | .int n => if 0 ≤ n ∧ n < 2 ^ 62 then rt (.int n) else up none
        | _ => up none) μ
      | none => none)
    | b, ds => up (bltD b (ds.map (look μ))) μ
section
variable {α β : Type} {T : Tab} {ρ ρ1 ρ2 : Rho} {μ μ1 μ2 μ3 : Store} {d x y z : D} {a b c e o i : E} {es : List E} {ds : List D} {Q : D → Store → Prop} {QL : List D → Store → Prop} {QB : Bool → Store → Prop} {QO : Option Int → Store → Prop} {QS : Fl → Rho → Store → Prop} {X : Exc → Store → Prop}
theorem wo_some {a : α} {P : α → Prop} : wo (some a) P = P a := (rfl)
theorem wo_none {P : α → Prop} : wo none P = False := (rfl)
theorem wo_map {f : α → β} {o : Option α} {P : β → Prop} : wo (o.map f) P = wo o fun a => P (f a) := by cases o <;> rfl
theorem wo_ite {p : Prop} [Decidable p] {a : α} {P : α → Prop} : wo (if p then some a else none) P = (p ∧ P a) := by
  by_cases h : p <;> simp [h, wo]
theorem wo_bind {f : α → Option β} {o : Option α} {P : β → Prop} : wo (o.bind f) P = wo o fun a => wo (f a) P := by cases o <;> rfl
theorem w_of {x : M α} {μ μ' : Store} {a : α} {Q : α → Store → Prop} (h : x μ = some (.ok a, μ')) : wp x μ Q X = Q a μ' := by
  unfold wp
  rw [h]
theorem w_ofX {x : M α} {μ μ' : Store} {e : Exc} {Q : α → Store → Prop} (h : x μ = some (.error e, μ')) : wp x μ Q X = X e μ' := by
  unfold wp
  rw [h]
theorem w_out {x : M α} {μ : Store} {Q : α → Store → Prop} (h : wp x μ Q X) : (∃ a μ', x μ = some (.ok a, μ') ∧ Q a μ') ∨ (∃ e μ', x μ = some (.error e, μ') ∧ X e μ') := by
  unfold wp at h
  split at h
  · rename_i a μ' e
    exact .inl ⟨a, μ', e, h⟩
  · rename_i a μ' e
    exact .inr ⟨a, μ', e, h⟩
  · exact h.elim
theorem w_ok {x : M α} {μ : Store} {Q : α → Store → Prop} (h : wp x μ Q fun _ _ => False) : ∃ a μ', x μ = some (.ok a, μ') ∧ Q a μ' := by
  rcases w_out h with h | ⟨_, _, _, h⟩
  · exact h
  · exact h.elim
theorem w_eq {x : M α} {μ μ' : Store} {a : α} (h : wp x μ (fun b μ1 => b = a ∧ μ1 = μ') fun _ _ => False) : x μ = some (.ok a, μ') := by
  obtain ⟨_, _, e, rfl, rfl⟩ := w_ok h
  exact e
theorem w_mono {x : M α} {μ : Store} {Q Q' : α → Store → Prop} {X' : Exc → Store → Prop} (h : wp x μ Q X) (hq : ∀ a μ', Q a μ' → Q' a μ') (hx : ∀ a μ', X a μ' → X' a μ') : wp x μ Q' X' := by
  unfold wp at h ⊢
  split at h
  · exact hq _ _ h
  · exact hx _ _ h
  · exact h.elim
theorem w_congr {x y : M α} {μ : Store} {Q : α → Store → Prop} (h : x μ = y μ) : wp x μ Q X = wp y μ Q X := by
  unfold wp
  rw [h]
theorem w_rt {a : α} {Q : α → Store → Prop} : wp (rt a) μ Q X = Q a μ := (rfl)
theorem w_bd {x : M α} {f : α → M β} {Q : β → Store → Prop} : wp (bd x f) μ Q X = wp x μ (fun a μ1 => wp (f a) μ1 Q X) X := by
  unfold wp bd
  cases h : x μ with
  | none => rfl
  | some r =>
    obtain ⟨r, μ'⟩ := r
    cases r <;> rfl
theorem w_up {o : Option α} {Q : α → Store → Prop} : wp (up o) μ Q X = wo o fun a => Q a μ := by cases o <;> rfl
theorem w_upμ {o : Store → Option α} {Q : α → Store → Prop} : wp (fun μ => up (o μ) μ) μ Q X = wo (o μ) fun a => Q a μ := by
  show wp (up (o μ)) μ Q X = _
  rw [w_up]
theorem w_ite {p : Prop} [Decidable p] {x y : M α} {Q : α → Store → Prop} : wp (if p then x else y) μ Q X = if p then wp x μ Q X else wp y μ Q X := by split <;> rfl
theorem w_sure {x : M α} {Q : α → Store → Prop} : wp (sure x) μ Q X = wp x μ Q (fun _ _ => False) := by
  unfold wp sure
  cases x μ with
  | none => rfl
  | some r =>
    obtain ⟨r, μ'⟩ := r
    cases r <;> rfl
/-- a value that must be a bool, an int -/
def bQ (x : D) (P : Bool → Prop) : Prop := match x with
  | .bl k => P k
  | _ => False
def iQ (x : D) (P : Int → Prop) : Prop := match x with
  | .int k => P k
  | _ => False
theorem bQ_bl {k : Bool} {P : Bool → Prop} : bQ (.bl k) P = P k := (rfl)
theorem iQ_int {k : Int} {P : Int → Prop} : iQ (.int k) P = P k := (rfl)
/-! expressions -/
theorem w_non : wp (evalE T .non ρ) μ Q X = Q .non μ := by simp only [evalE, w_rt]
theorem w_bl {k : Bool} : wp (evalE T (.bl k) ρ) μ Q X = Q (.bl k) μ := by simp only [evalE, w_rt]
theorem w_int {k : Int} : wp (evalE T (.int k) ρ) μ Q X = Q (.int k) μ := by simp only [evalE, w_rt]
theorem w_str {k : Str} : wp (evalE T (.str k) ρ) μ Q X = Q (.str k) μ := by simp only [evalE, w_rt]
theorem w_emp : wp (evalE T .emp ρ) μ Q X = Q (.dic [] []) μ := by simp only [evalE, w_rt]
theorem w_var {k : Nat} : wp (evalE T (.var k) ρ) μ Q X = wo ρ[k]? fun o => wo o fun d => wp (frzD d) μ Q X := by
  simp only [evalE]
  cases ρ[k]? with
  | none => rfl
  | some o => cases o <;> rfl
theorem w_raw {k : Nat} : wp (evalE T (.raw k) ρ) μ Q X = wo ρ[k]? fun o => wo o fun d => Q d μ := by
  simp only [evalE]
  cases ρ[k]? with
  | none => rfl
  | some o => cases o <;> rfl
theorem w_gcon {k : Nat} : wp (evalE T (.gcon k) ρ) μ Q X = wo T.cons[k]? fun d => Q d μ := by simp only [evalE, w_up]
theorem w_bin {op : Operator} : wp (evalE T (.bin op a b) ρ) μ Q X = wp (evalE T a ρ) μ (fun x μ => wp (evalE T b ρ) μ (fun y μ => wp (binT T op x y) μ Q X) X) X := by simp only [evalE, w_bd]
theorem w_neg : wp (evalE T (.neg a) ρ) μ Q X = wp (evalE T a ρ) μ (fun x μ => iQ x fun i => Q (.int (-i)) μ) X := by
  simp only [evalE, w_bd]
  congr
  funext x μ
  cases x <;> rfl
theorem w_cmp {op : CmpOp} : wp (evalE T (.cmp op a b) ρ) μ Q X = wp (evalE T a ρ) μ (fun x μ => wp (evalE T b ρ) μ (fun y μ => wp (cmpT T op x y) μ Q X) X) X := by simp only [evalE, w_bd]
theorem w_chain {op op' : CmpOp} : wp (evalE T (.chain op op' a b c) ρ) μ Q X = wp (evalE T a ρ) μ (fun x μ => wp (evalE T b ρ) μ (fun y μ => wo (cmpD op (look μ x) (look μ y)) fun k =>
    if k = true then wp (evalE T c ρ) μ (fun z μ => wo (cmpD op' (look μ y) (look μ z)) fun k => Q (.bl k) μ) X else Q (.bl false) μ) X) X := by
  simp only [evalE, w_bd]
  congr
  funext x μ
  congr
  funext y μ
  rw [w_upμ (o := fun μ => cmpD op (look μ x) (look μ y))]
  congr
  funext k
  rw [w_ite, w_bd, w_rt]
  congr
  funext z μ
  rw [w_upμ (o := fun μ => (cmpD op' (look μ y) (look μ z)).map D.bl), wo_map]
theorem w_and : wp (evalE T (.and a b) ρ) μ Q X = wp (evalE T a ρ) μ (fun x μ => bQ x fun k => if k = true then wp (evalE T b ρ) μ Q X else Q (.bl false) μ) X := by
  simp only [evalE, w_bd]
  congr
  funext x μ
  cases x with
  | bl k => cases k <;> rfl
  | _ => rfl
theorem w_or : wp (evalE T (.or a b) ρ) μ Q X = wp (evalE T a ρ) μ (fun x μ => bQ x fun k => if k = true then Q (.bl true) μ else wp (evalE T b ρ) μ Q X) X := by
  simp only [evalE, w_bd]
  congr
  funext x μ
  cases x with
  | bl k => cases k <;> rfl
  | _ => rfl
theorem w_not : wp (evalE T (.not a) ρ) μ Q X = wp (evalE T a ρ) μ (fun x μ => bQ x fun k => Q (.bl (!k)) μ) X := by
  simp only [evalE, w_bd]
  congr
  funext x μ
  cases x <;> rfl
theorem w_ifx {t : B} : wp (evalE T (.ite t a b) ρ) μ Q X = wp (evalT T t ρ) μ (fun k μ => if k = true then wp (evalE T a ρ) μ Q X else wp (evalE T b ρ) μ Q X) X := by
  simp only [evalE, w_bd, w_ite]
theorem w_tup : wp (evalE T (.tup es) ρ) μ Q X = wp (evalL T es ρ) μ (fun ds μ => ds.length ≤ sizeLine ∧ Q (.tup ds) μ) X := by
  simp only [evalE, w_bd, w_ite, w_rt, w_up, wo_none]
  congr
  funext ds μ
  by_cases h : ds.length ≤ sizeLine <;> simp [h]
theorem w_lst : wp (evalE T (.lst es) ρ) μ Q X = wp (evalL T es ρ) μ (fun ds μ => ds.length ≤ sizeLine ∧ Q (.lst ds) μ) X := by
  simp only [evalE, w_bd, w_ite, w_rt, w_up, wo_none]
  congr
  funext ds μ
  by_cases h : ds.length ≤ sizeLine <;> simp [h]
theorem w_own : wp (evalE T (.own es) ρ) μ Q X = wp (evalL T es ρ) μ (fun ds μ => (ds.length ≤ sizeLine ∧ D.nrL ds = true) ∧ Q (.ref μ.length) (μ ++ [.own ds])) X := by
  simp only [evalE, w_bd]
  congr
  funext ds μ
  by_cases h : ds.length ≤ sizeLine ∧ D.nrL ds = true <;> simp [h, wp]
theorem w_dnw : wp (evalE T .dnw ρ) μ Q X = Q (.ref μ.length) (μ ++ [.dct [] []]) := by
  simp only [evalE]
  rfl
theorem w_call {f : Nat} : wp (evalE T (.call f es) ρ) μ Q X = wp (evalL T es ρ) μ (fun ds μ => wp (callT T f ds) μ Q X) X := by simp only [evalE, w_bd]
theorem w_isi {t : Ty} : wp (evalE T (.isi a t) ρ) μ Q X = wp (evalE T a ρ) μ (fun x μ => wo (isiD (look μ x) t) fun k => Q (.bl k) μ) X := by
  simp only [evalE, w_bd]
  congr
  funext x μ
  rw [w_upμ (o := fun μ => (isiD (look μ x) t).map D.bl), wo_map]
theorem w_mth {m : Mth} : wp (evalE T (.mth m o es) ρ) μ Q X = wp (evalE T o ρ) μ (fun x μ => mthTy m x = true ∧ wp (evalL T es ρ) μ (fun ds μ => wo (mthD m x ds) fun d => Q d μ) X) X := by
  simp only [evalE, w_bd, w_ite, w_up, wo_none]
  congr
  funext x μ
  by_cases h : mthTy m x = true <;> simp [h]
theorem w_sub : wp (evalE T (.sub o i) ρ) μ Q X = wp (evalE T o ρ) μ (fun x μ => wp (evalE T i ρ) μ (fun y μ => wp (subT T x y) μ Q X) X) X := by simp only [evalE, w_bd]
theorem w_slc {lo hi : Option E} : wp (evalE T (.slc o lo hi) ρ) μ Q X = wp (evalE T o ρ) μ (fun x μ => wp (evalO T lo ρ) μ (fun l μ => wp (evalO T hi ρ) μ (fun h μ => wo (slcD (look μ x) l h) fun d => Q d μ) X) X) X := by
  simp only [evalE, w_bd]
  congr
  funext x μ
  congr
  funext l μ
  congr
  funext h μ
  rw [w_upμ (o := fun μ => slcD (look μ x) l h)]
theorem w_att {n : Str} : wp (evalE T (.att o n) ρ) μ Q X = wp (evalE T o ρ) μ (fun d μ => wp (attT T n d) μ Q X) X := by simp only [evalE, w_bd]
theorem w_met {n : Str} : wp (evalE T (.met o n es) ρ) μ Q X = wp (evalE T o ρ) μ (fun d μ => wo (metN T μ n d) fun f => wp (evalL T es ρ) μ (fun ds μ => wp (callT T f (d :: ds)) μ Q X) X) X := by
  simp only [evalE, w_bd]
  congr
  funext d μ
  cases h : metN T μ n d with
  | none =>
    rw [w_congr (y := up none) (by rw [h]; rfl)]
    rfl
  | some f =>
    rw [w_congr (y := bd (evalL T es ρ) fun ds => callT T f (d :: ds)) (by rw [h]), w_bd]
    rfl
theorem w_mk {k : Nat} : wp (evalE T (.mk k es) ρ) μ Q X = wp (evalL T es ρ) μ (fun ds μ => wp (mkT T k ds) μ Q X) X := by simp only [evalE, w_bd]
theorem w_mks {k : Nat} : wp (evalE T (.mks k e) ρ) μ Q X = wp (evalE T e ρ) μ (fun d μ => wo (seqD d) fun ds => wp (mkT T k ds) μ Q X) X := by
  simp only [evalE, w_bd]
  congr
  funext d μ
  cases seqD d <;> rfl
theorem w_cm {k : Nat} {n : Str} : wp (evalE T (.cm k n es) ρ) μ Q X = wo ((T.cls[k]?).bind fun C => C.cs.lookup n) fun f => wp (evalL T es ρ) μ (fun ds μ => wp (callT T f (.cls k :: ds)) μ Q X) X := by
  simp only [evalE]
  cases (T.cls[k]?).bind fun C => C.cs.lookup n with
  | none => rfl
  | some f =>
    show wp (bd _ _) μ Q X = _
    rw [w_bd]
    rfl
theorem w_lc {vs : List Nat} {tg : Tg} {it : I} {ifs : List B} {elt : E} : wp (evalE T (.lc vs tg it ifs elt) ρ) μ Q X = wp (evalI T it ρ) μ (fun ds μ => wp (lcM (fun d => bindT tg d (wipeR ρ vs)) (fun ρ' => evalTs T ifs ρ') (fun ρ' => one1 (evalE T elt ρ')) ds) μ (fun ys μ => ys.length ≤ sizeLine ∧ Q (.lst ys) μ) fun _ _ => False) X := by
  simp only [evalE, w_bd, w_ite, w_rt, w_up, wo_none, w_sure]
  congr
  funext ds μ
  congr
  funext ys μ
  by_cases h : ys.length ≤ sizeLine <;> simp [h]
theorem w_lc2 {vs vs1 : List Nat} {tg tg1 : Tg} {it it1 : I} {ifs ifs1 : List B} {elt : E} : wp (evalE T (.lc2 vs vs1 tg it ifs tg1 it1 ifs1 elt) ρ) μ Q X = wp (evalI T it ρ) μ (fun ds μ => wp (lcM (fun d => bindT tg d (wipeR ρ vs)) (fun ρ' => evalTs T ifs ρ')
      (fun ρ' => bd (evalI T it1 ρ') fun ds1 => lcM (fun d => bindT tg1 d (wipeR ρ' vs1)) (fun ρ2 => evalTs T ifs1 ρ2) (fun ρ2 => one1 (evalE T elt ρ2)) ds1) ds) μ (fun ys μ => ys.length ≤ sizeLine ∧ Q (.lst ys) μ) fun _ _ => False) X := by
  simp only [evalE, w_bd, w_ite, w_rt, w_up, wo_none, w_sure]
  congr
  funext ds μ
  congr
  funext ys μ
  by_cases h : ys.length ≤ sizeLine <;> simp [h]
/-- d.get(k, z) behind its arguments -/
def getQ (μ : Store) (x y z : D) (Q : D → Store → Prop) : Prop := match look μ x, keyD y with
      | .dic ks xs, some k => Q ((dAt ks xs k).getD z) μ
      | _, _ => False
def isDic : D → Bool
  | .dic _ _ => true
  | _ => false
theorem w_get {k : E} : wp (evalE T (.get o k e) ρ) μ Q X = wp (evalE T o ρ) μ (fun x μ => isDic (look μ x) = true ∧
    wp (evalE T k ρ) μ (fun y μ => wp (evalE T e ρ) μ (fun z μ => getQ μ x y z Q) X) X) X := by
  simp only [evalE, w_bd]
  congr
  funext x μ
  cases h : look μ x with
  | dic ks xs =>
    rw [w_congr (y := bd (evalE T k ρ) (fun y => bd (evalE T e ρ) fun z μ' => match look μ' x, keyD y with
      | .dic ks xs, some k => some (.ok ((dAt ks xs k).getD z), μ')
      | _, _ => none)) (by rw [h] <;> rfl)]
    simp only [w_bd, isDic, true_and]
    congr
    funext y μ
    congr
    funext z μ
    unfold getQ wp
    dsimp only
    cases look μ x <;> cases keyD y <;> rfl
  | _ =>
    rw [w_congr (y := up none) (by rw [h]; rfl)]
    simp [w_up, wo, isDic]
theorem w_blt {k : Blt} : wp (evalE T (.blt k es) ρ) μ Q X = wp (evalL T es ρ) μ (fun ds μ => wp (bltT T k ds) μ Q X) X := by
  simp only [evalE, w_bd]
  rfl
theorem w_bltD {k : Blt} (h : k ≠ .len ∨ ∀ c fs, ds ≠ [.ins c fs]) : wp (bltT T k ds) μ Q X = wo (bltD k (ds.map (look μ))) fun d => Q d μ := by
  have e : bltT T k ds = fun μ => up (bltD k (ds.map (look μ))) μ := by
    funext μ
    unfold bltT
    split
    · rename_i c fs
      rcases h with h | h
      · exact absurd rfl h
      · exact absurd rfl (h c fs)
    · rfl
  rw [e, w_upμ (o := fun μ => bltD k (ds.map (look μ)))]
theorem w_lenO {c : Nat} {fs : List D} : wp (bltT T .len [.ins c fs]) μ Q X = wo (opN T μ "__len__" (.ins c fs)) fun f => wp (callT T f [.ins c fs]) μ (fun d μ => iQ d fun n => (0 ≤ n ∧ n < 2 ^ 62) ∧ Q (.int n) μ) X := by
  cases h : opN T μ "__len__" (.ins c fs) with
  | none =>
    rw [w_congr (y := up none) (by show (match opN T μ "__len__" (.ins c fs) with | some f => _ | none => none) = _; rw [h]; rfl)]
    rfl
  | some f =>
    rw [w_congr (y := bd (callT T f [.ins c fs]) (fun (d : D) => match d with
        | .int n => if 0 ≤ n ∧ n < 2 ^ 62 then rt (D.int n) else up none
        | _ => up none)) (by show (match opN T μ "__len__" (.ins c fs) with | some f => _ | none => none) = _; rw [h]), w_bd, wo_some]
    congr
    funext d μ
    cases d with
    | int n =>
      show wp (if 0 ≤ n ∧ n < 2 ^ 62 then rt (D.int n) else up none) μ Q X = ((0 ≤ n ∧ n < 2 ^ 62) ∧ Q (D.int n) μ)
      rw [w_ite, w_rt, w_up, wo_none]
      by_cases h : 0 ≤ n ∧ n < 2 ^ 62 <;> simp [h]
    | _ => rfl
/-! lists of expressions -/
theorem wl_nil : wp (evalL T [] ρ) μ QL X = QL [] μ := by simp only [evalL, w_rt]
def starE : E → Bool
  | .star _ => true
  | _ => false
theorem wl_cons (h : starE e = false) : wp (evalL T (e :: es) ρ) μ QL X = wp (evalE T e ρ) μ (fun x μ => wp (evalL T es ρ) μ (fun xs μ => QL (x :: xs) μ) X) X := by
  cases e <;> first | (simp only [evalL, w_bd, w_rt]; done) | cases h
theorem wl_non  : wp (evalL T ((E.non) :: es) ρ) μ QL X = wp (evalE T (E.non) ρ) μ (fun x μ => wp (evalL T es ρ) μ (fun xs μ => QL (x :: xs) μ) X) X := wl_cons rfl
theorem wl_bl {k : Bool} : wp (evalL T ((E.bl k) :: es) ρ) μ QL X = wp (evalE T (E.bl k) ρ) μ (fun x μ => wp (evalL T es ρ) μ (fun xs μ => QL (x :: xs) μ) X) X := wl_cons rfl
theorem wl_int {k : Int} : wp (evalL T ((E.int k) :: es) ρ) μ QL X = wp (evalE T (E.int k) ρ) μ (fun x μ => wp (evalL T es ρ) μ (fun xs μ => QL (x :: xs) μ) X) X := wl_cons rfl
theorem wl_str {k : Str} : wp (evalL T ((E.str k) :: es) ρ) μ QL X = wp (evalE T (E.str k) ρ) μ (fun x μ => wp (evalL T es ρ) μ (fun xs μ => QL (x :: xs) μ) X) X := wl_cons rfl
theorem wl_var {k : Nat} : wp (evalL T ((E.var k) :: es) ρ) μ QL X = wp (evalE T (E.var k) ρ) μ (fun x μ => wp (evalL T es ρ) μ (fun xs μ => QL (x :: xs) μ) X) X := wl_cons rfl
theorem wl_raw {k : Nat} : wp (evalL T ((E.raw k) :: es) ρ) μ QL X = wp (evalE T (E.raw k) ρ) μ (fun x μ => wp (evalL T es ρ) μ (fun xs μ => QL (x :: xs) μ) X) X := wl_cons rfl
theorem wl_gcon {k : Nat} : wp (evalL T ((E.gcon k) :: es) ρ) μ QL X = wp (evalE T (E.gcon k) ρ) μ (fun x μ => wp (evalL T es ρ) μ (fun xs μ => QL (x :: xs) μ) X) X := wl_cons rfl
theorem wl_bin {p : Operator} {a b : E} : wp (evalL T ((E.bin p a b) :: es) ρ) μ QL X = wp (evalE T (E.bin p a b) ρ) μ (fun x μ => wp (evalL T es ρ) μ (fun xs μ => QL (x :: xs) μ) X) X := wl_cons rfl
theorem wl_neg {a : E} : wp (evalL T ((E.neg a) :: es) ρ) μ QL X = wp (evalE T (E.neg a) ρ) μ (fun x μ => wp (evalL T es ρ) μ (fun xs μ => QL (x :: xs) μ) X) X := wl_cons rfl
theorem wl_cmp {p : CmpOp} {a b : E} : wp (evalL T ((E.cmp p a b) :: es) ρ) μ QL X = wp (evalE T (E.cmp p a b) ρ) μ (fun x μ => wp (evalL T es ρ) μ (fun xs μ => QL (x :: xs) μ) X) X := wl_cons rfl
theorem wl_chain {p q : CmpOp} {a b c : E} : wp (evalL T ((E.chain p q a b c) :: es) ρ) μ QL X = wp (evalE T (E.chain p q a b c) ρ) μ (fun x μ => wp (evalL T es ρ) μ (fun xs μ => QL (x :: xs) μ) X) X := wl_cons rfl
theorem wl_and {a b : E} : wp (evalL T ((E.and a b) :: es) ρ) μ QL X = wp (evalE T (E.and a b) ρ) μ (fun x μ => wp (evalL T es ρ) μ (fun xs μ => QL (x :: xs) μ) X) X := wl_cons rfl
theorem wl_or {a b : E} : wp (evalL T ((E.or a b) :: es) ρ) μ QL X = wp (evalE T (E.or a b) ρ) μ (fun x μ => wp (evalL T es ρ) μ (fun xs μ => QL (x :: xs) μ) X) X := wl_cons rfl
theorem wl_not {a : E} : wp (evalL T ((E.not a) :: es) ρ) μ QL X = wp (evalE T (E.not a) ρ) μ (fun x μ => wp (evalL T es ρ) μ (fun xs μ => QL (x :: xs) μ) X) X := wl_cons rfl
theorem wl_ite {t : B} {a b : E} : wp (evalL T ((E.ite t a b) :: es) ρ) μ QL X = wp (evalE T (E.ite t a b) ρ) μ (fun x μ => wp (evalL T es ρ) μ (fun xs μ => QL (x :: xs) μ) X) X := wl_cons rfl
theorem wl_tup {xs : List E} : wp (evalL T ((E.tup xs) :: es) ρ) μ QL X = wp (evalE T (E.tup xs) ρ) μ (fun x μ => wp (evalL T es ρ) μ (fun xs μ => QL (x :: xs) μ) X) X := wl_cons rfl
theorem wl_lst {xs : List E} : wp (evalL T ((E.lst xs) :: es) ρ) μ QL X = wp (evalE T (E.lst xs) ρ) μ (fun x μ => wp (evalL T es ρ) μ (fun xs μ => QL (x :: xs) μ) X) X := wl_cons rfl
theorem wl_emp  : wp (evalL T ((E.emp) :: es) ρ) μ QL X = wp (evalE T (E.emp) ρ) μ (fun x μ => wp (evalL T es ρ) μ (fun xs μ => QL (x :: xs) μ) X) X := wl_cons rfl
theorem wl_own {xs : List E} : wp (evalL T ((E.own xs) :: es) ρ) μ QL X = wp (evalE T (E.own xs) ρ) μ (fun x μ => wp (evalL T es ρ) μ (fun xs μ => QL (x :: xs) μ) X) X := wl_cons rfl
theorem wl_dnw  : wp (evalL T ((E.dnw) :: es) ρ) μ QL X = wp (evalE T (E.dnw) ρ) μ (fun x μ => wp (evalL T es ρ) μ (fun xs μ => QL (x :: xs) μ) X) X := wl_cons rfl
theorem wl_call {k : Nat} {xs : List E} : wp (evalL T ((E.call k xs) :: es) ρ) μ QL X = wp (evalE T (E.call k xs) ρ) μ (fun x μ => wp (evalL T es ρ) μ (fun xs μ => QL (x :: xs) μ) X) X := wl_cons rfl
theorem wl_blt {k : Blt} {xs : List E} : wp (evalL T ((E.blt k xs) :: es) ρ) μ QL X = wp (evalE T (E.blt k xs) ρ) μ (fun x μ => wp (evalL T es ρ) μ (fun xs μ => QL (x :: xs) μ) X) X := wl_cons rfl
theorem wl_isi {a : E} {t : Ty} : wp (evalL T ((E.isi a t) :: es) ρ) μ QL X = wp (evalE T (E.isi a t) ρ) μ (fun x μ => wp (evalL T es ρ) μ (fun xs μ => QL (x :: xs) μ) X) X := wl_cons rfl
theorem wl_mth {m : Mth} {a : E} {xs : List E} : wp (evalL T ((E.mth m a xs) :: es) ρ) μ QL X = wp (evalE T (E.mth m a xs) ρ) μ (fun x μ => wp (evalL T es ρ) μ (fun xs μ => QL (x :: xs) μ) X) X := wl_cons rfl
theorem wl_get {a b c : E} : wp (evalL T ((E.get a b c) :: es) ρ) μ QL X = wp (evalE T (E.get a b c) ρ) μ (fun x μ => wp (evalL T es ρ) μ (fun xs μ => QL (x :: xs) μ) X) X := wl_cons rfl
theorem wl_sub {a b : E} : wp (evalL T ((E.sub a b) :: es) ρ) μ QL X = wp (evalE T (E.sub a b) ρ) μ (fun x μ => wp (evalL T es ρ) μ (fun xs μ => QL (x :: xs) μ) X) X := wl_cons rfl
theorem wl_slc {a : E} {l h : Option E} : wp (evalL T ((E.slc a l h) :: es) ρ) μ QL X = wp (evalE T (E.slc a l h) ρ) μ (fun x μ => wp (evalL T es ρ) μ (fun xs μ => QL (x :: xs) μ) X) X := wl_cons rfl
theorem wl_att {a : E} {n : Str} : wp (evalL T ((E.att a n) :: es) ρ) μ QL X = wp (evalE T (E.att a n) ρ) μ (fun x μ => wp (evalL T es ρ) μ (fun xs μ => QL (x :: xs) μ) X) X := wl_cons rfl
theorem wl_met {a : E} {n : Str} {xs : List E} : wp (evalL T ((E.met a n xs) :: es) ρ) μ QL X = wp (evalE T (E.met a n xs) ρ) μ (fun x μ => wp (evalL T es ρ) μ (fun xs μ => QL (x :: xs) μ) X) X := wl_cons rfl
theorem wl_mk {k : Nat} {xs : List E} : wp (evalL T ((E.mk k xs) :: es) ρ) μ QL X = wp (evalE T (E.mk k xs) ρ) μ (fun x μ => wp (evalL T es ρ) μ (fun xs μ => QL (x :: xs) μ) X) X := wl_cons rfl
theorem wl_mks {k : Nat} {a : E} : wp (evalL T ((E.mks k a) :: es) ρ) μ QL X = wp (evalE T (E.mks k a) ρ) μ (fun x μ => wp (evalL T es ρ) μ (fun xs μ => QL (x :: xs) μ) X) X := wl_cons rfl
theorem wl_cm {k : Nat} {n : Str} {xs : List E} : wp (evalL T ((E.cm k n xs) :: es) ρ) μ QL X = wp (evalE T (E.cm k n xs) ρ) μ (fun x μ => wp (evalL T es ρ) μ (fun xs μ => QL (x :: xs) μ) X) X := wl_cons rfl
theorem wl_lc {vs : List Nat} {g : Tg} {it : I} {ifs : List B} {a : E} : wp (evalL T ((E.lc vs g it ifs a) :: es) ρ) μ QL X = wp (evalE T (E.lc vs g it ifs a) ρ) μ (fun x μ => wp (evalL T es ρ) μ (fun xs μ => QL (x :: xs) μ) X) X := wl_cons rfl
theorem wl_lc2 {vs vs1 : List Nat} {g : Tg} {it : I} {ifs : List B} {g1 : Tg} {it1 : I} {ifs1 : List B} {a : E} : wp (evalL T ((E.lc2 vs vs1 g it ifs g1 it1 ifs1 a) :: es) ρ) μ QL X = wp (evalE T (E.lc2 vs vs1 g it ifs g1 it1 ifs1 a) ρ) μ (fun x μ => wp (evalL T es ρ) μ (fun xs μ => QL (x :: xs) μ) X) X := wl_cons rfl
theorem wl_star : wp (evalL T (.star e :: es) ρ) μ QL X = wp (evalE T e ρ) μ (fun x μ => wo (seqD x) fun ys => wp (evalL T es ρ) μ (fun xs μ => QL (ys ++ xs) μ) X) X := by
  simp only [evalL, w_bd]
  congr
  funext x μ
  cases seqD x with
  | none => rfl
  | some ys => simp only [w_bd, w_rt, wo_some]
theorem w_onone : wp (evalO T none ρ) μ QO X = QO none μ := by simp only [evalO, w_rt]
theorem w_osome : wp (evalO T (some e) ρ) μ QO X = wp (evalE T e ρ) μ (fun x μ => iQ x fun i => QO (some i) μ) X := by
  simp only [evalO, w_bd]
  congr
  funext x μ
  cases x <;> rfl
/-! tests -/
theorem wt_val : wp (evalT T (.val e) ρ) μ QB X = wp (evalE T e ρ) μ (fun x μ => wo (truD (look μ x)) fun k => QB k μ) X := by
  simp only [evalT, w_bd]
  congr
  funext x μ
  rw [w_upμ (o := fun μ => truD (look μ x))]
theorem wt_cmp {op : CmpOp} : wp (evalT T (.cmp op a b) ρ) μ QB X = wp (evalE T a ρ) μ (fun x μ => wp (evalE T b ρ) μ (fun y μ => wp (cmpT T op x y) μ (fun d μ => bQ d fun k => QB k μ) X) X) X := by
  simp only [evalT, w_bd, boolM]
  congr
  funext x μ
  congr
  funext y μ
  congr
  funext d μ
  cases d <;> rfl
theorem wt_chain {op op' : CmpOp} : wp (evalT T (.chain op op' a b c) ρ) μ QB X = wp (evalE T a ρ) μ (fun x μ => wp (evalE T b ρ) μ (fun y μ => wo (cmpD op (look μ x) (look μ y)) fun k =>
    if k = true then wp (evalE T c ρ) μ (fun z μ => wo (cmpD op' (look μ y) (look μ z)) fun k => QB k μ) X else QB false μ) X) X := by
  simp only [evalT, w_bd]
  congr
  funext x μ
  congr
  funext y μ
  rw [w_upμ (o := fun μ => cmpD op (look μ x) (look μ y))]
  congr
  funext k
  rw [w_ite, w_bd, w_rt]
  congr
  funext z μ
  rw [w_upμ (o := fun μ => cmpD op' (look μ y) (look μ z))]
theorem wt_not {t : B} : wp (evalT T (.not t) ρ) μ QB X = wp (evalT T t ρ) μ (fun k μ => QB (!k) μ) X := by simp only [evalT, w_bd, w_rt]
theorem wt_and {t u : B} : wp (evalT T (.and t u) ρ) μ QB X = wp (evalT T t ρ) μ (fun k μ => if k = true then wp (evalT T u ρ) μ QB X else QB false μ) X := by simp only [evalT, w_bd, w_rt, w_ite]
theorem wt_or {t u : B} : wp (evalT T (.or t u) ρ) μ QB X = wp (evalT T t ρ) μ (fun k μ => if k = true then QB true μ else wp (evalT T u ρ) μ QB X) X := by simp only [evalT, w_bd, w_rt, w_ite]
theorem wts_nil : wp (evalTs T [] ρ) μ QB X = QB true μ := by simp only [evalTs, w_rt]
theorem wts_cons {t : B} {ts : List B} : wp (evalTs T (t :: ts) ρ) μ QB X = wp (evalT T t ρ) μ (fun k μ => if k = true then wp (evalTs T ts ρ) μ QB X else QB false μ) X := by simp only [evalTs, w_bd, w_rt, w_ite]
/-! walks -/
theorem wi_val : wp (evalI T (.val e) ρ) μ QL X = wp (evalE T e ρ) μ (fun x μ => wo (itemsD x) fun ds => QL ds μ) X := by simp only [evalI, w_bd, w_up]
theorem wi_rng1 : wp (evalI T (.rng1 a) ρ) μ QL X = wp (evalE T a ρ) μ (fun x μ => iQ x fun j => rngOk j = true ∧ QL (rngD 0 j.toNat) μ) X := by
  simp only [evalI, w_bd]
  congr
  funext x μ
  cases x with
  | int j =>
    show wp (if rngOk j = true then rt (rngD 0 j.toNat) else up none) μ QL X = (rngOk j = true ∧ QL (rngD 0 j.toNat) μ)
    rw [w_ite, w_rt, w_up, wo_none]
    by_cases h : rngOk j = true <;> simp [h]
  | _ => rfl
theorem wi_rng2 : wp (evalI T (.rng2 a b) ρ) μ QL X = wp (evalE T a ρ) μ (fun x μ => wp (evalE T b ρ) μ (fun y μ => iQ x fun i => iQ y fun j => (rngOk i = true ∧ rngOk j = true) ∧ QL (rngD i (j - i).toNat) μ) X) X := by
  simp only [evalI, w_bd]
  congr
  funext x μ
  congr
  funext y μ
  cases x with
  | int i =>
    cases y with
    | int j =>
      show wp (if (rngOk i && rngOk j) = true then rt (rngD i (j - i).toNat) else up none) μ QL X = ((rngOk i = true ∧ rngOk j = true) ∧ QL (rngD i (j - i).toNat) μ)
      rw [w_ite, w_rt, w_up, wo_none, ← Bool.and_eq_true]
      by_cases h : (rngOk i && rngOk j) = true <;> simp [h]
    | _ => rfl
  | _ => rfl
theorem wi_zip : wp (evalI T (.zip a b) ρ) μ QL X = wp (evalE T a ρ) μ (fun x μ => wp (evalE T b ρ) μ (fun y μ => wo (zipK x y) fun ds => QL ds μ) X) X := by simp only [evalI, w_bd, w_up]
theorem wi_enum : wp (evalI T (.enum a) ρ) μ QL X = wp (evalE T a ρ) μ (fun (x : D) μ => match x with | .lst xs => QL (enumD 0 xs) μ | _ => False) X := by
  simp only [evalI, w_bd]
  congr
  funext x μ
  cases x <;> rfl
/-! statements -/
theorem s_andS {α : Type} {x : M α} {k : α → Store → Option (Fl × Rho × Store)} : ws (andS x ρ k μ) QS = wp x μ (fun a μ => ws (k a μ) QS) (fun e μ => QS (.exc e) ρ μ) := by
  unfold andS wp
  cases x μ with
  | none => rfl
  | some r =>
    obtain ⟨r, μ'⟩ := r
    cases r <;> rfl
theorem ws_map {o : Option α} {f : α → Fl × Rho × Store} : ws (o.map f) QS = wo o fun a => QS (f a).1 (f a).2.1 (f a).2.2 := by cases o <;> rfl
theorem s_asg {tg : Tg} : ws (execS T (.asg tg e) ρ μ) QS = wp (evalE T e ρ) μ (fun d μ => wo (bindT tg d ρ) fun ρ => QS .next ρ μ) (fun e μ => QS (.exc e) ρ μ) := by
  simp only [execS, s_andS, ws_map]
theorem s_par {i j : Nat} : ws (execS T (.par i j a b) ρ μ) QS = wp (evalE T a ρ) μ (fun x μ => wp (evalE T b ρ) μ (fun y μ => QS .next ((ρ.set i (some x)).set j (some y)) μ) (fun e μ => QS (.exc e) ρ μ)) (fun e μ => QS (.exc e) ρ μ) := by
  simp only [execS, s_andS]
  rfl
theorem s_put {k : Nat} : ws (execS T (.put k i e) ρ μ) QS = wp (evalE T e ρ) μ (fun d μ => wo ρ[k]? fun o => wo o fun o => wp (evalE T i ρ) μ (fun x μ => wo (putC μ o x d) fun μ => QS .next ρ μ) (fun e μ => QS (.exc e) ρ μ)) (fun e μ => QS (.exc e) ρ μ) := by
  simp only [execS, s_andS, ws_map, w_raw]
theorem s_fld {k : Nat} {n : Str} : ws (execS T (.fld k n e) ρ μ) QS = wp (evalE T e ρ) μ (fun d μ => wo ρ[k]? fun o => wo o fun o => wo (fldC T μ o n d) fun μ => QS .next ρ μ) (fun e μ => QS (.exc e) ρ μ) := by
  simp only [execS, s_andS, ws_map, w_raw]
theorem ws_ite {p : Prop} [Decidable p] {x y : Option (Fl × Rho × Store)} : ws (if p then x else y) QS = if p then ws x QS else ws y QS := by split <;> rfl
theorem ws_none : ws none QS = False := (rfl)
theorem ite_and {p : Prop} [Decidable p] {q : Prop} : (if p then q else False) = (p ∧ q) := by by_cases h : p <;> simp [h]
theorem s_app {k : Nat} : ws (execS T (.app k e) ρ μ) QS = wo ρ[k]? fun o => wo o fun o => (appC μ o []).isSome = true ∧ wp (evalE T e ρ) μ (fun d μ => wo (appC μ o [d]) fun μ => QS .next ρ μ) (fun e μ => QS (.exc e) ρ μ) := by
  simp only [execS, s_andS, ws_map, w_raw, ws_ite, ws_none, ite_and]
def extQ (Q : Store → Prop) (o : D) (d : D) (μ : Store) : Prop := match d with
  | .lst ds => wo (appC μ o ds) Q
  | _ => False
theorem s_ext {k : Nat} : ws (execS T (.ext k e) ρ μ) QS = wo ρ[k]? fun o => wo o fun o => (appC μ o []).isSome = true ∧ wp (evalE T e ρ) μ (fun d μ => extQ (fun μ => QS .next ρ μ) o d μ) (fun e μ => QS (.exc e) ρ μ) := by
  simp only [execS, s_andS, w_raw, ws_ite, ws_none, ite_and]
  cases ρ[k]? with
  | none => rfl
  | some o =>
    cases o with
    | none => rfl
    | some o =>
      simp only [wo_some]
      congr
      funext d μ
      cases d <;> first | rfl | exact ws_map
theorem s_ife {t : B} {x y : List S} : ws (execS T (.ife t x y) ρ μ) QS = wp (evalT T t ρ) μ (fun k μ => if k = true then ws (execL T x ρ μ) QS else ws (execL T y ρ μ) QS) (fun e μ => QS (.exc e) ρ μ) := by
  simp only [execS, s_andS, ws_ite]
theorem s_for {tg : Tg} {it : I} {body : List S} : ws (execS T (.for tg it body) ρ μ) QS = wp (evalI T it ρ) μ (fun ds μ => ws (forM (fun d ρ => bindT tg d ρ) (fun ρ μ => execL T body ρ μ) ds ρ μ) QS) (fun e μ => QS (.exc e) ρ μ) := by
  simp only [execS, s_andS]
theorem s_ret : ws (execS T (.ret e) ρ μ) QS = wp (evalE T e ρ) μ (fun d μ => QS (.ret d) ρ μ) (fun e μ => QS (.exc e) ρ μ) := by
  simp only [execS, s_andS]
  rfl
theorem s_retN : ws (execS T .retN ρ μ) QS = QS (.ret .non) ρ μ := by simp only [execS]; rfl
theorem s_retS : ws (execS T (.retS es) ρ μ) QS = wp (evalL T es ρ) μ (fun ds μ => (ds.length ≤ sizeLine ∧ D.nrL ds = true) ∧ QS (.ret (.ref μ.length)) ρ (μ ++ [.shr ds])) (fun e μ => QS (.exc e) ρ μ) := by
  simp only [execS, s_andS, ws_ite, ws_none, ite_and]
  rfl
theorem s_expr : ws (execS T (.expr e) ρ μ) QS = wp (evalE T e ρ) μ (fun _ μ => QS .next ρ μ) (fun e μ => QS (.exc e) ρ μ) := by
  simp only [execS, s_andS]
  rfl
theorem s_pass : ws (execS T .pass ρ μ) QS = QS .next ρ μ := by simp only [execS]; rfl
theorem s_brk : ws (execS T .brk ρ μ) QS = QS .brk ρ μ := by simp only [execS]; rfl
theorem s_cont : ws (execS T .cont ρ μ) QS = QS .cont ρ μ := by simp only [execS]; rfl
theorem ss_nil : ws (execL T [] ρ μ) QS = QS .next ρ μ := by simp only [execL]; rfl
/-- what follows a statement -/
def thn (T : Tab) (r : List S) (QS : Fl → Rho → Store → Prop) : Fl → Rho → Store → Prop
  | .next, ρ, μ => ws (execL T r ρ μ) QS
  | f, ρ, μ => QS f ρ μ
theorem thn_next {r : List S} : thn T r QS .next ρ μ = ws (execL T r ρ μ) QS := (rfl)
theorem thn_brk {r : List S} : thn T r QS .brk ρ μ = QS .brk ρ μ := (rfl)
theorem thn_cont {r : List S} : thn T r QS .cont ρ μ = QS .cont ρ μ := (rfl)
theorem thn_ret {r : List S} : thn T r QS (.ret d) ρ μ = QS (.ret d) ρ μ := (rfl)
theorem thn_exc {r : List S} {e : Exc} : thn T r QS (.exc e) ρ μ = QS (.exc e) ρ μ := (rfl)
theorem ss_cons {s : S} {r : List S} : ws (execL T (s :: r) ρ μ) QS = ws (execS T s ρ μ) (thn T r QS) := by
  simp only [execL]
  cases h : execS T s ρ μ with
  | none => rfl
  | some z =>
    obtain ⟨f, ρ1, μ1⟩ := z
    cases f <;> rfl
/-! defs -/
/-- the end of a def -/
def endQ (n : Nat) (Q : D → Store → Prop) (X : Exc → Store → Prop) : Fl → Rho → Store → Prop
  | .ret d, _, μ => d.nr = true ∧ Q d (μ.take n)
  | .next, _, μ => Q .non (μ.take n)
  | .exc x, _, μ => D.nrL x.ds = true ∧ X x (μ.take n)
  | _, _, _ => False
theorem end_ret {n : Nat} : endQ n Q X (.ret d) ρ μ = (d.nr = true ∧ Q d (μ.take n)) := (rfl)
theorem end_next {n : Nat} : endQ n Q X .next ρ μ = Q .non (μ.take n) := (rfl)
theorem end_exc {n : Nat} {e : Exc} : endQ n Q X (.exc e) ρ μ = (D.nrL e.ds = true ∧ X e (μ.take n)) := (rfl)
theorem w_runB {n : Nat} {body : List S} : wp (runB T n body ds) μ Q X = ws (execL T body (startR n ds) μ) (endQ μ.length Q X) := by
  unfold wp runB
  cases execL T body (startR n ds) μ with
  | none => rfl
  | some z =>
    obtain ⟨f, ρ1, μ1⟩ := z
    cases f with
    | ret d =>
      show _ = (d.nr = true ∧ Q d (μ1.take μ.length))
      by_cases h : d.nr = true <;> simp [h]
    | exc x =>
      show _ = (D.nrL x.ds = true ∧ X x (μ1.take μ.length))
      by_cases h : D.nrL x.ds = true <;> simp [h]
    | _ => rfl
theorem w_fnB {n np : Nat} {body : List S} (h : ds.length = np) : wp (fnB T n np body ds) μ Q X = ws (execL T body (startR n ds) μ) (endQ μ.length Q X) := by
  rw [← w_runB]
  refine w_congr ?_
  unfold fnB
  rw [if_pos h]
theorem w_fnS {n np : Nat} {body : List S} (h : np ≤ ds.length ∧ ds.length ≤ sizeLine) : wp (fnS T n np body ds) μ Q X = ws (execL T body (startR n (ds.take np ++ [.tup (ds.drop np)])) μ) (endQ μ.length Q X) := by
  rw [← w_runB]
  refine w_congr ?_
  unfold fnS
  rw [if_pos h]
/-- the end of a def that hands back a new shared list -/
def endN (n : Nat) (Q : D → Store → Prop) : Fl → Rho → Store → Prop
  | .ret (.ref k), _, μ' => match μ'[k]? with
    | some (.shr xs) => n ≤ k ∧ Q (.ref n) (μ'.take n ++ [.shr xs])
    | _ => False
  | _, _, _ => False
theorem w_fnN {n np : Nat} {body : List S} (h : ds.length = np) : wp (fnN T n np body ds) μ Q X = ws (execL T body (startR n ds) μ) (endN μ.length Q) := by
  unfold wp fnN
  rw [if_pos h]
  unfold runN
  cases execL T body (startR n ds) μ with
  | none => rfl
  | some z =>
    obtain ⟨f, ρ1, μ1⟩ := z
    cases f with
    | ret d =>
      cases d with
      | ref k =>
        show _ = endN μ.length Q (.ret (.ref k)) ρ1 μ1
        unfold endN
        dsimp only
        cases μ1[k]? with
        | none => rfl
        | some c =>
          cases c with
          | shr xs => by_cases hk : μ.length ≤ k <;> simp [hk]
          | _ => rfl
      | _ => rfl
    | _ => rfl
theorem endN_ret {xs : List D} : endN μ.length Q (.ret (.ref μ.length)) ρ (μ ++ [.shr xs]) = Q (.ref μ.length) (μ ++ [.shr xs]) := by
  unfold endN
  dsimp only
  rw [List.getElem?_append_right (Nat.le_refl _), Nat.sub_self]
  show (μ.length ≤ μ.length ∧ Q _ (List.take μ.length (μ ++ [.shr xs]) ++ [.shr xs])) = _
  rw [List.take_left]
  simp
theorem endN_exc {e : Exc} {n : Nat} : endN n Q (.exc e) ρ μ = False := (rfl)
theorem thn_endN {n : Nat} {r : List S} : thn T r (endN n Q) (.ret d) ρ μ = endN n Q (.ret d) ρ μ := (rfl)
/-! operations -/
theorem w_frz_non : wp (frzD .non) μ Q X = Q .non μ := (rfl)
theorem w_frz_bl {k : Bool} : wp (frzD (.bl k)) μ Q X = Q (.bl k) μ := (rfl)
theorem w_frz_int {k : Int} : wp (frzD (.int k)) μ Q X = Q (.int k) μ := (rfl)
theorem w_frz_str {k : Str} : wp (frzD (.str k)) μ Q X = Q (.str k) μ := (rfl)
theorem w_frz_tup : wp (frzD (.tup ds)) μ Q X = Q (.tup ds) μ := (rfl)
theorem w_frz_lst : wp (frzD (.lst ds)) μ Q X = Q (.lst ds) μ := (rfl)
theorem w_frz_rol : wp (frzD (.rol ds)) μ Q X = Q (.rol ds) μ := (rfl)
theorem w_frz_ins {k : Nat} : wp (frzD (.ins k ds)) μ Q X = Q (.ins k ds) μ := (rfl)
theorem w_frz_cls {k : Nat} : wp (frzD (.cls k)) μ Q X = Q (.cls k) μ := (rfl)
theorem w_frz_dic {ks : List Key} : wp (frzD (.dic ks ds)) μ Q X = Q (.dic ks ds) μ := (rfl)
theorem w_frz_nr (h : d.nr = true) : wp (frzD d) μ Q X = Q d μ := by cases d <;> first | rfl | cases h
theorem look_nr (h : d.nr = true) : look μ d = d := by cases d <;> first | rfl | cases h
theorem w_binT {op : Operator} (h : sameC x y = false) : wp (binT T op x y) μ Q X = wo (binD op (look μ x) (look μ y)) fun d => Q d μ := by
  rw [w_congr (y := up (binD op (look μ x) (look μ y))) (by unfold binT; rw [if_neg (by rw [h]; exact Bool.false_ne_true)]), w_up]
theorem w_cmpT {op : CmpOp} (h : sameC x y = false) : wp (cmpT T op x y) μ Q X = wo (cmpD op (look μ x) (look μ y)) fun k => Q (.bl k) μ := by
  rw [w_congr (y := up ((cmpD op (look μ x) (look μ y)).map .bl)) (by unfold cmpT; rw [if_neg (by rw [h]; exact Bool.false_ne_true)]), w_up, wo_map]
theorem w_cmpO {op : CmpOp} {n : Str} {c : Nat} {fs gs : List D} (hn : cmpNm op = some n) : wp (cmpT T op (.ins c fs) (.ins c gs)) μ Q X = wo (opN T μ n (.ins c fs)) fun f => wp (callT T f [.ins c fs, .ins c gs]) μ Q X := by
  have e : cmpT T op (.ins c fs) (.ins c gs) μ = (match opN T μ n (.ins c fs) with | some f => callT T f [.ins c fs, .ins c gs] μ | none => none) := by
    unfold cmpT
    rw [if_pos (by simp [sameC]), hn]
    rfl
  unfold wp
  rw [e]
  cases opN T μ n (.ins c fs) <;> rfl
theorem w_binO {op : Operator} {n : Str} {c : Nat} {fs gs : List D} (hn : binNm op = some n) : wp (binT T op (.ins c fs) (.ins c gs)) μ Q X = wo (opN T μ n (.ins c fs)) fun f => wp (callT T f [.ins c fs, .ins c gs]) μ Q X := by
  have e : binT T op (.ins c fs) (.ins c gs) μ = (match opN T μ n (.ins c fs) with | some f => callT T f [.ins c fs, .ins c gs] μ | none => none) := by
    unfold binT
    rw [if_pos (by simp [sameC]), hn]
    rfl
  unfold wp
  rw [e]
  cases opN T μ n (.ins c fs) <;> rfl
theorem w_subT (h : isIns x = false) : wp (subT T x y) μ Q X = wo (subD (look μ x) (look μ y)) fun d => Q d μ := by
  rw [w_congr (y := up (subD (look μ x) (look μ y))) (by unfold subT; rw [if_neg (by rw [h]; exact Bool.false_ne_true)]), w_up]
theorem w_subO {c : Nat} {fs : List D} : wp (subT T (.ins c fs) y) μ Q X = wo (opN T μ "__getitem__" (.ins c fs)) fun f => wp (callT T f [.ins c fs, y]) μ Q X := by
  have e : subT T (.ins c fs) y μ = (match opN T μ "__getitem__" (.ins c fs) with | some f => callT T f [.ins c fs, y] μ | none => none) := by
    unfold subT
    rw [if_pos (show isIns (.ins c fs) = true from rfl)] <;> rfl
  unfold wp
  rw [e]
  cases opN T μ "__getitem__" (.ins c fs) <;> rfl
theorem eq_bl {a b : Bool} : (D.bl a = D.bl b) = (a = b) := by simp
theorem eq_int {a b : Int} : (D.int a = D.int b) = (a = b) := by simp
theorem eq_tup {a b : List D} : (D.tup a = D.tup b) = (a = b) := by simp
theorem eq_lst {a b : List D} : (D.lst a = D.lst b) = (a = b) := by simp
end
/-! isinstance -/
section
variable {i : Int} {k : Bool} {x : Str} {ds : List D} {ks : List Key} {c c' : Nat}
theorem isi_non_int : isiD D.non (.ty "int") = some false := by simp [isiD, tyD]
theorem isi_non_str : isiD D.non (.ty "str") = some false := by simp [isiD, tyD]
theorem isi_non_tuple : isiD D.non (.ty "tuple") = some false := by simp [isiD, tyD]
theorem isi_non_list : isiD D.non (.ty "list") = some false := by simp [isiD, tyD]
theorem isi_non_dict : isiD D.non (.ty "dict") = some false := by simp [isiD, tyD]
theorem isi_non_bool : isiD D.non (.ty "bool") = some false := by simp [isiD, tyD]
theorem isi_non_own : isiD D.non (.own c') = some false := by simp [isiD, tyD]
theorem isi_bl_int : isiD (D.bl k) (.ty "int") = some true := by simp [isiD, tyD]
theorem isi_bl_str : isiD (D.bl k) (.ty "str") = some false := by simp [isiD, tyD]
theorem isi_bl_tuple : isiD (D.bl k) (.ty "tuple") = some false := by simp [isiD, tyD]
theorem isi_bl_list : isiD (D.bl k) (.ty "list") = some false := by simp [isiD, tyD]
theorem isi_bl_dict : isiD (D.bl k) (.ty "dict") = some false := by simp [isiD, tyD]
theorem isi_bl_bool : isiD (D.bl k) (.ty "bool") = some true := by simp [isiD, tyD]
theorem isi_bl_own : isiD (D.bl k) (.own c') = some false := by simp [isiD, tyD]
theorem isi_int_int : isiD (D.int i) (.ty "int") = some true := by simp [isiD, tyD]
theorem isi_int_str : isiD (D.int i) (.ty "str") = some false := by simp [isiD, tyD]
theorem isi_int_tuple : isiD (D.int i) (.ty "tuple") = some false := by simp [isiD, tyD]
theorem isi_int_list : isiD (D.int i) (.ty "list") = some false := by simp [isiD, tyD]
theorem isi_int_dict : isiD (D.int i) (.ty "dict") = some false := by simp [isiD, tyD]
theorem isi_int_bool : isiD (D.int i) (.ty "bool") = some false := by simp [isiD, tyD]
theorem isi_int_own : isiD (D.int i) (.own c') = some false := by simp [isiD, tyD]
theorem isi_str_int : isiD (D.str x) (.ty "int") = some false := by simp [isiD, tyD]
theorem isi_str_str : isiD (D.str x) (.ty "str") = some true := by simp [isiD, tyD]
theorem isi_str_tuple : isiD (D.str x) (.ty "tuple") = some false := by simp [isiD, tyD]
theorem isi_str_list : isiD (D.str x) (.ty "list") = some false := by simp [isiD, tyD]
theorem isi_str_dict : isiD (D.str x) (.ty "dict") = some false := by simp [isiD, tyD]
theorem isi_str_bool : isiD (D.str x) (.ty "bool") = some false := by simp [isiD, tyD]
theorem isi_str_own : isiD (D.str x) (.own c') = some false := by simp [isiD, tyD]
theorem isi_tup_int : isiD (D.tup ds) (.ty "int") = some false := by simp [isiD, tyD]
theorem isi_tup_str : isiD (D.tup ds) (.ty "str") = some false := by simp [isiD, tyD]
theorem isi_tup_tuple : isiD (D.tup ds) (.ty "tuple") = some true := by simp [isiD, tyD]
theorem isi_tup_list : isiD (D.tup ds) (.ty "list") = some false := by simp [isiD, tyD]
theorem isi_tup_dict : isiD (D.tup ds) (.ty "dict") = some false := by simp [isiD, tyD]
theorem isi_tup_bool : isiD (D.tup ds) (.ty "bool") = some false := by simp [isiD, tyD]
theorem isi_tup_own : isiD (D.tup ds) (.own c') = some false := by simp [isiD, tyD]
theorem isi_lst_int : isiD (D.lst ds) (.ty "int") = some false := by simp [isiD, tyD]
theorem isi_lst_str : isiD (D.lst ds) (.ty "str") = some false := by simp [isiD, tyD]
theorem isi_lst_tuple : isiD (D.lst ds) (.ty "tuple") = some false := by simp [isiD, tyD]
theorem isi_lst_list : isiD (D.lst ds) (.ty "list") = some true := by simp [isiD, tyD]
theorem isi_lst_dict : isiD (D.lst ds) (.ty "dict") = some false := by simp [isiD, tyD]
theorem isi_lst_bool : isiD (D.lst ds) (.ty "bool") = some false := by simp [isiD, tyD]
theorem isi_lst_own : isiD (D.lst ds) (.own c') = some false := by simp [isiD, tyD]
theorem isi_dic_int : isiD (D.dic ks ds) (.ty "int") = some false := by simp [isiD, tyD]
theorem isi_dic_str : isiD (D.dic ks ds) (.ty "str") = some false := by simp [isiD, tyD]
theorem isi_dic_tuple : isiD (D.dic ks ds) (.ty "tuple") = some false := by simp [isiD, tyD]
theorem isi_dic_list : isiD (D.dic ks ds) (.ty "list") = some false := by simp [isiD, tyD]
theorem isi_dic_dict : isiD (D.dic ks ds) (.ty "dict") = some true := by simp [isiD, tyD]
theorem isi_dic_bool : isiD (D.dic ks ds) (.ty "bool") = some false := by simp [isiD, tyD]
theorem isi_dic_own : isiD (D.dic ks ds) (.own c') = some false := by simp [isiD, tyD]
theorem isi_ins_int : isiD (D.ins c ds) (.ty "int") = some false := by simp [isiD, tyD]
theorem isi_ins_str : isiD (D.ins c ds) (.ty "str") = some false := by simp [isiD, tyD]
theorem isi_ins_tuple : isiD (D.ins c ds) (.ty "tuple") = some false := by simp [isiD, tyD]
theorem isi_ins_list : isiD (D.ins c ds) (.ty "list") = some false := by simp [isiD, tyD]
theorem isi_ins_dict : isiD (D.ins c ds) (.ty "dict") = some false := by simp [isiD, tyD]
theorem isi_ins_bool : isiD (D.ins c ds) (.ty "bool") = some false := by simp [isiD, tyD]
theorem isi_ins_own : isiD (D.ins c ds) (.own c') = some (decide (c = c')) := by simp [isiD, tyD]
end
end Sg
/-! Sv: objects; loops; comprehensions; the die. -/
namespace Sg
open PySem L2
section
variable {T : Tab} {ρ : Rho} {μ : Store} {d x y z : D} {ds fs : List D} {Q : D → Store → Prop} {QL : List D → Store → Prop} {QS : Fl → Rho → Store → Prop} {X : Exc → Store → Prop}
theorem metN_ins {n : Str} {c : Nat} : metN T μ n (.ins c fs) = (T.cls[c]?).bind fun C => C.ms.lookup n := by
  show (match T.cls[c]? with | some C => C.ms.lookup n | none => none) = _
  cases T.cls[c]? <;> rfl
theorem opN_ins {n : Str} {c : Nat} : opN T μ n (.ins c fs) = (T.cls[c]?).bind fun C => C.ms.lookup n := (rfl)
/-- o.x, by the place of the attribute or the number of the property -/
def attQ (T : Tab) (c : Nat) (fs : List D) (μ : Store) (Q : D → Store → Prop) (X : Exc → Store → Prop) (i p : Option Nat) : Prop := match i with
  | some i => wo fs[i]? fun d => Q d μ
  | none => wo p fun f => wp (callT T f [.ins c fs]) μ Q X
theorem w_attI {n : Str} {c : Nat} : wp (attT T n (.ins c fs)) μ Q X = attQ T c fs μ Q X ((T.cls[c]?).bind fun C => C.fs.idxOf? n) ((T.cls[c]?).bind fun C => C.ps.lookup n) := by
  have e : attT T n (.ins c fs) μ = (match T.cls[c]? with
    | some C => match C.fs.idxOf? n with
      | some i => up fs[i]? μ
      | none => match C.ps.lookup n with
        | some f => callT T f [.ins c fs] μ
        | none => none
    | none => none) := (rfl)
  unfold wp
  rw [e]
  cases T.cls[c]? with
  | none => rfl
  | some C =>
    show _ = attQ T c fs μ Q X (C.fs.idxOf? n) (C.ps.lookup n)
    dsimp only
    cases C.fs.idxOf? n with
    | some i =>
      show wp (up fs[i]?) μ Q X = _
      rw [w_up]
      rfl
    | none =>
      cases C.ps.lookup n with
      | none => rfl
      | some f =>
        rfl
theorem attQ_some {c i : Nat} {p : Option Nat} : attQ T c fs μ Q X (some i) p = wo fs[i]? fun d => Q d μ := (rfl)
theorem attQ_none {c : Nat} {p : Option Nat} : attQ T c fs μ Q X none p = wo p fun f => wp (callT T f [.ins c fs]) μ Q X := (rfl)
/-! loops -/
theorem for_nil {b : D → Rho → Option Rho} {f : Rho → Store → Option (Fl × Rho × Store)} : ws (forM b f [] ρ μ) QS = QS .next ρ μ := (rfl)
/-- what a turn leaves -/
def turnQ (b : D → Rho → Option Rho) (f : Rho → Store → Option (Fl × Rho × Store)) (r : List D) (QS : Fl → Rho → Store → Prop) : Fl → Rho → Store → Prop
  | .next, ρ, μ => ws (forM b f r ρ μ) QS
  | .cont, ρ, μ => ws (forM b f r ρ μ) QS
  | .brk, ρ, μ => QS .next ρ μ
  | g, ρ, μ => QS g ρ μ
theorem for_cons {b : D → Rho → Option Rho} {f : Rho → Store → Option (Fl × Rho × Store)} : ws (forM b f (x :: ds) ρ μ) QS = wo (b x ρ) fun ρ => ws (f ρ μ) (turnQ b f ds QS) := by
  show ws (match b x ρ with | none => none | some ρ1 => _) QS = _
  cases b x ρ with
  | none => rfl
  | some ρ1 =>
    show ws (match f ρ1 μ with | some (.next, ρ2, μ2) => _ | some (.cont, ρ2, μ2) => _ | some (.brk, ρ2, μ2) => _ | z => z) QS = ws (f ρ1 μ) _
    cases f ρ1 μ with
    | none => rfl
    | some z =>
      obtain ⟨g, ρ2, μ2⟩ := z
      cases g <;> rfl
/-- a loop by its invariant over the items that are left -/
theorem for_inv {b : D → Rho → Option Rho} {f : Rho → Store → Option (Fl × Rho × Store)} (I : List D → Rho → Store → Prop)
    (step : ∀ x r ρ μ, I (x :: r) ρ μ → wo (b x ρ) fun ρ => ws (f ρ μ) fun g ρ μ => match g with
      | .next => I r ρ μ
      | .cont => I r ρ μ
      | .brk => QS .next ρ μ
      | g => QS g ρ μ) (done : ∀ ρ μ, I [] ρ μ → QS .next ρ μ) : ∀ (ds : List D) (ρ : Rho) (μ : Store), I ds ρ μ → ws (forM b f ds ρ μ) QS
  | [], ρ, μ, h => done ρ μ h
  | x :: r, ρ, μ, h => by
    rw [for_cons]
    have q := step x r ρ μ h
    cases e : b x ρ with
    | none =>
      rw [e] at q
      exact q
    | some ρ1 =>
      rw [e] at q
      rw [wo_some] at q ⊢
      cases e2 : f ρ1 μ with
      | none =>
        rw [e2] at q
        exact q
      | some z =>
        obtain ⟨g, ρ2, μ2⟩ := z
        rw [e2] at q
        cases g with
        | next => exact for_inv I step done r ρ2 μ2 q
        | cont => exact for_inv I step done r ρ2 μ2 q
        | brk => exact q
        | ret d => exact q
        | exc x => exact q
theorem for_map {α : Type} {b : D → Rho → Option Rho} {f : Rho → Store → Option (Fl × Rho × Store)} (g : α → D) (I : List α → Rho → Store → Prop)
    (step : ∀ x r ρ μ, I (x :: r) ρ μ → wo (b (g x) ρ) fun ρ => ws (f ρ μ) fun g ρ μ => match g with
      | .next => I r ρ μ
      | .cont => I r ρ μ
      | .brk => QS .next ρ μ
      | g => QS g ρ μ) (done : ∀ ρ μ, I [] ρ μ → QS .next ρ μ) (cs : List α) (ρ : Rho) (μ : Store) (h : I cs ρ μ) : ws (forM b f (cs.map g) ρ μ) QS := by
  refine for_inv (fun ds ρ μ => ∃ r, ds = r.map g ∧ I r ρ μ) ?_ ?_ _ _ _ ⟨cs, rfl, h⟩
  · rintro x r ρ μ ⟨r', e, hi⟩
    cases r' with
    | nil => cases e
    | cons y t =>
      obtain ⟨rfl, rfl⟩ := List.cons.inj e
      have q := step y t ρ μ hi
      cases e1 : b (g y) ρ with
      | none =>
        rw [e1] at q
        exact q
      | some ρ1 =>
        rw [e1] at q
        rw [wo_some] at q ⊢
        cases e2 : f ρ1 μ with
        | none =>
          rw [e2] at q
          exact q
        | some z =>
          obtain ⟨fl, ρ2, μ2⟩ := z
          rw [e2] at q
          cases fl with
          | next => exact ⟨t, rfl, q⟩
          | cont => exact ⟨t, rfl, q⟩
          | brk => exact q
          | ret d => exact q
          | exc x => exact q
  · rintro ρ μ ⟨r', e, hi⟩
    cases r' with
    | nil => exact done ρ μ hi
    | cons y t => cases e
/-! comprehensions -/
theorem w_one1 {x : M D} : wp (one1 x) μ QL X = wp x μ (fun d μ => QL [d] μ) X := by
  unfold one1
  rw [w_bd]
  rfl
theorem lc_nil {b : D → Option Rho} {f : Rho → M Bool} {e : Rho → M (List D)} : wp (lcM b f e []) μ QL X = QL [] μ := (rfl)
theorem lc_cons {b : D → Option Rho} {f : Rho → M Bool} {e : Rho → M (List D)} : wp (lcM b f e (x :: ds)) μ QL X = wo (b x) fun ρ => wp (f ρ) μ (fun k μ => if k = true then wp (e ρ) μ (fun ys μ => wp (lcM b f e ds) μ (fun zs μ => QL (ys ++ zs) μ) X) X else wp (lcM b f e ds) μ QL X) X := by
  simp only [lcM]
  cases b x with
  | none => rfl
  | some ρ => simp only [w_bd, w_ite, w_rt, wo_some]
/-- each item makes a value of its own, or none, and changes nothing -/
theorem lc_map {α : Type} {b : D → Option Rho} {f : Rho → M Bool} {e : Rho → M (List D)} (p : α → Bool) (g h : α → D) (cs : List α)
    (hx : ∀ c ∈ cs, wo (b (g c)) fun ρ => wp (f ρ) μ (fun k μ' => μ' = μ ∧ k = p c ∧ (k = true → wp (e ρ) μ (fun ys μ' => μ' = μ ∧ ys = [h c]) fun _ _ => False)) fun _ _ => False)
    (hq : QL ((cs.filter p).map h) μ) : wp (lcM b f e (cs.map g)) μ QL X := by
  induction cs generalizing QL with
  | nil => exact hq
  | cons c r ih =>
    rw [List.map_cons, lc_cons]
    have q := hx c (List.mem_cons_self ..)
    cases e1 : b (g c) with
    | none =>
      rw [e1] at q
      exact q
    | some ρ =>
      rw [e1] at q
      rw [wo_some] at q ⊢
      refine w_mono q ?_ fun _ _ h => h.elim
      rintro k μ1 ⟨rfl, rfl, h1⟩
      cases hp : p c with
      | true =>
        rw [if_pos rfl]
        refine w_mono (h1 hp) ?_ fun _ _ h => h.elim
        rintro ys μ2 ⟨rfl, rfl⟩
        refine ih (fun c hc => hx c (List.mem_cons_of_mem _ hc)) ?_
        rw [List.filter_cons_of_pos hp] at hq
        exact hq
      | false =>
        rw [if_neg Bool.false_ne_true]
        refine ih (fun c hc => hx c (List.mem_cons_of_mem _ hc)) ?_
        rw [List.filter_cons_of_neg (by rw [hp]; exact Bool.false_ne_true)] at hq
        exact hq
theorem lc_if {α : Type} {b : D → Option Rho} {f : Rho → M Bool} {e : Rho → M (List D)} (p : α → Bool) (g h : α → D) {cs : List α}
    (hx : ∀ c ∈ cs, wo (b (g c)) fun ρ => wp (f ρ) μ (fun k μ' => μ' = μ ∧ k = p c ∧ (k = true → wp (e ρ) μ (fun ys μ' => μ' = μ ∧ ys = [h c]) fun _ _ => False)) fun _ _ => False) :
    wp (lcM b f e (cs.map g)) μ QL X = QL ((cs.filter p).map h) μ := w_of (w_eq (lc_map p g h cs hx ⟨rfl, rfl⟩))
/-- each item makes some values of its own, and changes nothing -/
theorem lc_flat {α : Type} {b : D → Option Rho} {f : Rho → M Bool} {e : Rho → M (List D)} (g : α → D) (h : α → List D) {cs : List α}
    (hx : ∀ c ∈ cs, wo (b (g c)) fun ρ => wp (f ρ) μ (fun k μ' => k = true ∧ wp (e ρ) μ' (fun ys μ' => μ' = μ ∧ ys = h c) fun _ _ => False) fun _ _ => False) :
    wp (lcM b f e (cs.map g)) μ QL X = QL (cs.flatMap h) μ := by
  refine w_of (w_eq ?_)
  have key : ∀ {QL : List D → Store → Prop} (cs : List α), (∀ c ∈ cs, wo (b (g c)) fun ρ => wp (f ρ) μ (fun k μ' => k = true ∧ wp (e ρ) μ' (fun ys μ' => μ' = μ ∧ ys = h c) fun _ _ => False) fun _ _ => False) → QL (cs.flatMap h) μ → wp (lcM b f e (cs.map g)) μ QL fun _ _ => False := by
    intro QL cs
    induction cs generalizing QL with
    | nil => exact fun _ hq => hq
    | cons c r ih =>
      intro hx hq
      rw [List.map_cons, lc_cons]
      have q := hx c (List.mem_cons_self ..)
      cases e1 : b (g c) with
      | none =>
        rw [e1] at q
        exact q
      | some ρ =>
        rw [e1] at q
        rw [wo_some] at q ⊢
        refine w_mono q ?_ fun _ _ h => h.elim
        rintro k μ1 ⟨rfl, h1⟩
        rw [if_pos rfl]
        refine w_mono h1 ?_ fun _ _ h => h.elim
        rintro ys μ2 ⟨rfl, rfl⟩
        exact ih (fun c hc => hx c (List.mem_cons_of_mem _ hc)) hq
  exact key cs hx ⟨rfl, rfl⟩
theorem lc_eq {α : Type} {b : D → Option Rho} {f : Rho → M Bool} {e : Rho → M (List D)} (g h : α → D) {cs : List α}
    (hx : ∀ c ∈ cs, wo (b (g c)) fun ρ => wp (f ρ) μ (fun k μ' => k = true ∧ wp (e ρ) μ' (fun ys μ' => μ' = μ ∧ ys = [h c]) fun _ _ => False) fun _ _ => False) :
    wp (lcM b f e (cs.map g)) μ QL X = QL (cs.map h) μ := by
  rw [lc_flat g (fun c => [h c]) hx]
  have e : ∀ cs : List α, (cs.flatMap fun c => [h c]) = cs.map h := by
    intro cs
    induction cs with
    | nil => rfl
    | cons c r ih =>
      rw [List.flatMap_cons, ih]
      rfl
  rw [e]
inductive All2 {α β : Type} (P : α → β → Prop) : List α → List β → Prop
  | nil : All2 P [] []
  | cons {a : α} {b : β} {as : List α} {bs : List β} (h : P a b) (t : All2 P as bs) : All2 P (a :: as) (b :: bs)
theorem All2.length {α β : Type} {P : α → β → Prop} {as : List α} {bs : List β} (h : All2 P as bs) : as.length = bs.length := by
  induction h with
  | nil => rfl
  | cons _ _ ih => rw [List.length_cons, List.length_cons, ih]
theorem All2.right {α β : Type} {P : α → β → Prop} {as : List α} {bs : List β} (h : All2 P as bs) : ∀ b ∈ bs, ∃ a ∈ as, P a b := by
  induction h with
  | nil => exact fun b hb => by cases hb
  | cons h _ ih =>
    intro b hb
    rcases List.mem_cons.mp hb with rfl | hb
    · exact ⟨_, List.mem_cons_self .., h⟩
    · obtain ⟨a, ha, p⟩ := ih b hb
      exact ⟨a, List.mem_cons_of_mem _ ha, p⟩
/-- a comprehension by an invariant of the store, each value with a property -/
theorem lc_inv {b : D → Option Rho} {f : Rho → M Bool} {e : Rho → M (List D)} (I : Store → Prop) (P : D → D → Prop)
    : ∀ (ds : List D) (μ : Store), I μ → (∀ x ∈ ds, ∀ μ, I μ → wo (b x) fun ρ => wp (f ρ) μ (fun k μ' => k = true ∧ wp (e ρ) μ' (fun ys μ' => I μ' ∧ ∃ y, ys = [y] ∧ P x y) fun _ _ => False) fun _ _ => False) →
      (∀ ys μ', I μ' → All2 P ds ys → QL ys μ') → wp (lcM b f e ds) μ QL X := by
  intro ds
  induction ds generalizing QL with
  | nil => exact fun μ h _ hq => hq [] μ h .nil
  | cons x r ih =>
    intro μ h hx hq
    rw [lc_cons]
    have q := hx x (List.mem_cons_self ..) μ h
    cases e1 : b x with
    | none =>
      rw [e1] at q
      exact q
    | some ρ =>
      rw [e1] at q
      rw [wo_some] at q ⊢
      refine w_mono q ?_ fun _ _ h => h.elim
      rintro k μ1 ⟨rfl, h1⟩
      rw [if_pos rfl]
      refine w_mono h1 ?_ fun _ _ h => h.elim
      rintro ys μ2 ⟨h2, y, rfl, hy⟩
      exact ih μ2 h2 (fun z hz => hx z (List.mem_cons_of_mem _ hz)) fun zs μ3 h3 hz => hq (y :: zs) μ3 h3 (.cons hy hz)
end
section
variable {T : Tab} {ρ : Rho} {μ : Store} {op : Operator} {cp : CmpOp} {x y : D} {ds es fs gs : List D} {ks : List Key} {k k' : Bool} {i j : Int} {s s' : Str} {c : Nat} {l h : Option Int} {ts : List Tg} {Q : D → Store → Prop} {X : Exc → Store → Prop}
theorem q_bin_non : wp (binT T op D.non y) μ Q X = wo (binD op (look μ D.non) (look μ y)) fun d => Q d μ := w_binT rfl
theorem q_cmp_non : wp (cmpT T cp D.non y) μ Q X = wo (cmpD cp (look μ D.non) (look μ y)) fun k => Q (.bl k) μ := w_cmpT rfl
theorem q_sub_non : wp (subT T D.non y) μ Q X = wo (subD (look μ D.non) (look μ y)) fun d => Q d μ := w_subT rfl
theorem q_lk_non : look μ D.non = D.non := (rfl)
theorem q_len_non : wp (bltT T .len [D.non]) μ Q X = wo (bltD .len [look μ D.non]) fun d => Q d μ := w_bltD (.inr fun _ _ h => by cases h)
theorem q_cmpo_non : wp (cmpT T cp (.ins c fs) D.non) μ Q X = wo (cmpD cp (look μ (.ins c fs)) (look μ D.non)) fun k => Q (.bl k) μ := w_cmpT rfl
theorem q_bin_bl : wp (binT T op (D.bl k) y) μ Q X = wo (binD op (look μ (D.bl k)) (look μ y)) fun d => Q d μ := w_binT rfl
theorem q_cmp_bl : wp (cmpT T cp (D.bl k) y) μ Q X = wo (cmpD cp (look μ (D.bl k)) (look μ y)) fun k => Q (.bl k) μ := w_cmpT rfl
theorem q_sub_bl : wp (subT T (D.bl k) y) μ Q X = wo (subD (look μ (D.bl k)) (look μ y)) fun d => Q d μ := w_subT rfl
theorem q_lk_bl : look μ (D.bl k) = (D.bl k) := (rfl)
theorem q_len_bl : wp (bltT T .len [(D.bl k)]) μ Q X = wo (bltD .len [look μ (D.bl k)]) fun d => Q d μ := w_bltD (.inr fun _ _ h => by cases h)
theorem q_cmpo_bl : wp (cmpT T cp (.ins c fs) (D.bl k)) μ Q X = wo (cmpD cp (look μ (.ins c fs)) (look μ (D.bl k))) fun k => Q (.bl k) μ := w_cmpT rfl
theorem q_bin_int : wp (binT T op (D.int i) y) μ Q X = wo (binD op (look μ (D.int i)) (look μ y)) fun d => Q d μ := w_binT rfl
theorem q_cmp_int : wp (cmpT T cp (D.int i) y) μ Q X = wo (cmpD cp (look μ (D.int i)) (look μ y)) fun k => Q (.bl k) μ := w_cmpT rfl
theorem q_sub_int : wp (subT T (D.int i) y) μ Q X = wo (subD (look μ (D.int i)) (look μ y)) fun d => Q d μ := w_subT rfl
theorem q_lk_int : look μ (D.int i) = (D.int i) := (rfl)
theorem q_len_int : wp (bltT T .len [(D.int i)]) μ Q X = wo (bltD .len [look μ (D.int i)]) fun d => Q d μ := w_bltD (.inr fun _ _ h => by cases h)
theorem q_cmpo_int : wp (cmpT T cp (.ins c fs) (D.int i)) μ Q X = wo (cmpD cp (look μ (.ins c fs)) (look μ (D.int i))) fun k => Q (.bl k) μ := w_cmpT rfl
theorem q_bin_str : wp (binT T op (D.str s) y) μ Q X = wo (binD op (look μ (D.str s)) (look μ y)) fun d => Q d μ := w_binT rfl
theorem q_cmp_str : wp (cmpT T cp (D.str s) y) μ Q X = wo (cmpD cp (look μ (D.str s)) (look μ y)) fun k => Q (.bl k) μ := w_cmpT rfl
theorem q_sub_str : wp (subT T (D.str s) y) μ Q X = wo (subD (look μ (D.str s)) (look μ y)) fun d => Q d μ := w_subT rfl
theorem q_lk_str : look μ (D.str s) = (D.str s) := (rfl)
theorem q_len_str : wp (bltT T .len [(D.str s)]) μ Q X = wo (bltD .len [look μ (D.str s)]) fun d => Q d μ := w_bltD (.inr fun _ _ h => by cases h)
theorem q_cmpo_str : wp (cmpT T cp (.ins c fs) (D.str s)) μ Q X = wo (cmpD cp (look μ (.ins c fs)) (look μ (D.str s))) fun k => Q (.bl k) μ := w_cmpT rfl
theorem q_bin_tup : wp (binT T op (D.tup ds) y) μ Q X = wo (binD op (look μ (D.tup ds)) (look μ y)) fun d => Q d μ := w_binT rfl
theorem q_cmp_tup : wp (cmpT T cp (D.tup ds) y) μ Q X = wo (cmpD cp (look μ (D.tup ds)) (look μ y)) fun k => Q (.bl k) μ := w_cmpT rfl
theorem q_sub_tup : wp (subT T (D.tup ds) y) μ Q X = wo (subD (look μ (D.tup ds)) (look μ y)) fun d => Q d μ := w_subT rfl
theorem q_lk_tup : look μ (D.tup ds) = (D.tup ds) := (rfl)
theorem q_len_tup : wp (bltT T .len [(D.tup ds)]) μ Q X = wo (bltD .len [look μ (D.tup ds)]) fun d => Q d μ := w_bltD (.inr fun _ _ h => by cases h)
theorem q_cmpo_tup : wp (cmpT T cp (.ins c fs) (D.tup ds)) μ Q X = wo (cmpD cp (look μ (.ins c fs)) (look μ (D.tup ds))) fun k => Q (.bl k) μ := w_cmpT rfl
theorem q_bin_lst : wp (binT T op (D.lst ds) y) μ Q X = wo (binD op (look μ (D.lst ds)) (look μ y)) fun d => Q d μ := w_binT rfl
theorem q_cmp_lst : wp (cmpT T cp (D.lst ds) y) μ Q X = wo (cmpD cp (look μ (D.lst ds)) (look μ y)) fun k => Q (.bl k) μ := w_cmpT rfl
theorem q_sub_lst : wp (subT T (D.lst ds) y) μ Q X = wo (subD (look μ (D.lst ds)) (look μ y)) fun d => Q d μ := w_subT rfl
theorem q_lk_lst : look μ (D.lst ds) = (D.lst ds) := (rfl)
theorem q_len_lst : wp (bltT T .len [(D.lst ds)]) μ Q X = wo (bltD .len [look μ (D.lst ds)]) fun d => Q d μ := w_bltD (.inr fun _ _ h => by cases h)
theorem q_cmpo_lst : wp (cmpT T cp (.ins c fs) (D.lst ds)) μ Q X = wo (cmpD cp (look μ (.ins c fs)) (look μ (D.lst ds))) fun k => Q (.bl k) μ := w_cmpT rfl
theorem q_bin_dic : wp (binT T op (D.dic ks ds) y) μ Q X = wo (binD op (look μ (D.dic ks ds)) (look μ y)) fun d => Q d μ := w_binT rfl
theorem q_cmp_dic : wp (cmpT T cp (D.dic ks ds) y) μ Q X = wo (cmpD cp (look μ (D.dic ks ds)) (look μ y)) fun k => Q (.bl k) μ := w_cmpT rfl
theorem q_sub_dic : wp (subT T (D.dic ks ds) y) μ Q X = wo (subD (look μ (D.dic ks ds)) (look μ y)) fun d => Q d μ := w_subT rfl
theorem q_lk_dic : look μ (D.dic ks ds) = (D.dic ks ds) := (rfl)
theorem q_len_dic : wp (bltT T .len [(D.dic ks ds)]) μ Q X = wo (bltD .len [look μ (D.dic ks ds)]) fun d => Q d μ := w_bltD (.inr fun _ _ h => by cases h)
theorem q_cmpo_dic : wp (cmpT T cp (.ins c fs) (D.dic ks ds)) μ Q X = wo (cmpD cp (look μ (.ins c fs)) (look μ (D.dic ks ds))) fun k => Q (.bl k) μ := w_cmpT rfl
theorem q_bin_ref : wp (binT T op (D.ref c) y) μ Q X = wo (binD op (look μ (D.ref c)) (look μ y)) fun d => Q d μ := w_binT rfl
theorem q_cmp_ref : wp (cmpT T cp (D.ref c) y) μ Q X = wo (cmpD cp (look μ (D.ref c)) (look μ y)) fun k => Q (.bl k) μ := w_cmpT rfl
theorem q_sub_ref : wp (subT T (D.ref c) y) μ Q X = wo (subD (look μ (D.ref c)) (look μ y)) fun d => Q d μ := w_subT rfl
theorem q_len_ref : wp (bltT T .len [(D.ref c)]) μ Q X = wo (bltD .len [look μ (D.ref c)]) fun d => Q d μ := w_bltD (.inr fun _ _ h => by cases h)
theorem q_cmpo_ref : wp (cmpT T cp (.ins c fs) (D.ref c)) μ Q X = wo (cmpD cp (look μ (.ins c fs)) (look μ (D.ref c))) fun k => Q (.bl k) μ := w_cmpT rfl
theorem q_bin_cls : wp (binT T op (D.cls c) y) μ Q X = wo (binD op (look μ (D.cls c)) (look μ y)) fun d => Q d μ := w_binT rfl
theorem q_cmp_cls : wp (cmpT T cp (D.cls c) y) μ Q X = wo (cmpD cp (look μ (D.cls c)) (look μ y)) fun k => Q (.bl k) μ := w_cmpT rfl
theorem q_sub_cls : wp (subT T (D.cls c) y) μ Q X = wo (subD (look μ (D.cls c)) (look μ y)) fun d => Q d μ := w_subT rfl
theorem q_lk_cls : look μ (D.cls c) = (D.cls c) := (rfl)
theorem q_len_cls : wp (bltT T .len [(D.cls c)]) μ Q X = wo (bltD .len [look μ (D.cls c)]) fun d => Q d μ := w_bltD (.inr fun _ _ h => by cases h)
theorem q_cmpo_cls : wp (cmpT T cp (.ins c fs) (D.cls c)) μ Q X = wo (cmpD cp (look μ (.ins c fs)) (look μ (D.cls c))) fun k => Q (.bl k) μ := w_cmpT rfl
theorem q_bin_rol : wp (binT T op (D.rol ds) y) μ Q X = wo (binD op (look μ (D.rol ds)) (look μ y)) fun d => Q d μ := w_binT rfl
theorem q_cmp_rol : wp (cmpT T cp (D.rol ds) y) μ Q X = wo (cmpD cp (look μ (D.rol ds)) (look μ y)) fun k => Q (.bl k) μ := w_cmpT rfl
theorem q_sub_rol : wp (subT T (D.rol ds) y) μ Q X = wo (subD (look μ (D.rol ds)) (look μ y)) fun d => Q d μ := w_subT rfl
theorem q_lk_rol : look μ (D.rol ds) = (D.rol ds) := (rfl)
theorem q_len_rol : wp (bltT T .len [(D.rol ds)]) μ Q X = wo (bltD .len [look μ (D.rol ds)]) fun d => Q d μ := w_bltD (.inr fun _ _ h => by cases h)
theorem q_cmpo_rol : wp (cmpT T cp (.ins c fs) (D.rol ds)) μ Q X = wo (cmpD cp (look μ (.ins c fs)) (look μ (D.rol ds))) fun k => Q (.bl k) μ := w_cmpT rfl
theorem q_lk_ins : look μ (.ins c fs) = .ins c fs := (rfl)
theorem q_abs : wp (bltT T .abs ds) μ Q X = wo (bltD .abs (ds.map (look μ))) fun d => Q d μ := w_bltD (.inl (by decide))
theorem q_int : wp (bltT T .int ds) μ Q X = wo (bltD .int (ds.map (look μ))) fun d => Q d μ := w_bltD (.inl (by decide))
theorem q_max2 : wp (bltT T .max2 ds) μ Q X = wo (bltD .max2 (ds.map (look μ))) fun d => Q d μ := w_bltD (.inl (by decide))
theorem q_min2 : wp (bltT T .min2 ds) μ Q X = wo (bltD .min2 (ds.map (look μ))) fun d => Q d μ := w_bltD (.inl (by decide))
theorem q_all : wp (bltT T .all ds) μ Q X = wo (bltD .all (ds.map (look μ))) fun d => Q d μ := w_bltD (.inl (by decide))
theorem q_repr : wp (bltT T .repr ds) μ Q X = wo (bltD .repr (ds.map (look μ))) fun d => Q d μ := w_bltD (.inl (by decide))
theorem q_any : wp (bltT T .any ds) μ Q X = wo (bltD .any (ds.map (look μ))) fun d => Q d μ := w_bltD (.inl (by decide))
theorem q_sum : wp (bltT T .sum ds) μ Q X = wo (bltD .sum (ds.map (look μ))) fun d => Q d μ := w_bltD (.inl (by decide))
theorem q_sorted : wp (bltT T .sorted ds) μ Q X = wo (bltD .sorted (ds.map (look μ))) fun d => Q d μ := w_bltD (.inl (by decide))
theorem q_tuple : wp (bltT T .tuple ds) μ Q X = wo (bltD .tuple (ds.map (look μ))) fun d => Q d μ := w_bltD (.inl (by decide))
theorem q_list : wp (bltT T .list ds) μ Q X = wo (bltD .list (ds.map (look μ))) fun d => Q d μ := w_bltD (.inl (by decide))
theorem q_o__lt__ : wp (cmpT T .Lt (.ins c fs) (.ins c gs)) μ Q X = wo ((T.cls[c]?).bind fun C => C.ms.lookup ("__lt__" : Str)) fun f => wp (callT T f [.ins c fs, .ins c gs]) μ Q X := w_cmpO rfl
theorem q_o__le__ : wp (cmpT T .LtE (.ins c fs) (.ins c gs)) μ Q X = wo ((T.cls[c]?).bind fun C => C.ms.lookup ("__le__" : Str)) fun f => wp (callT T f [.ins c fs, .ins c gs]) μ Q X := w_cmpO rfl
theorem q_o__gt__ : wp (cmpT T .Gt (.ins c fs) (.ins c gs)) μ Q X = wo ((T.cls[c]?).bind fun C => C.ms.lookup ("__gt__" : Str)) fun f => wp (callT T f [.ins c fs, .ins c gs]) μ Q X := w_cmpO rfl
theorem q_o__ge__ : wp (cmpT T .GtE (.ins c fs) (.ins c gs)) μ Q X = wo ((T.cls[c]?).bind fun C => C.ms.lookup ("__ge__" : Str)) fun f => wp (callT T f [.ins c fs, .ins c gs]) μ Q X := w_cmpO rfl
theorem q_o__eq__ : wp (cmpT T .Eq (.ins c fs) (.ins c gs)) μ Q X = wo ((T.cls[c]?).bind fun C => C.ms.lookup ("__eq__" : Str)) fun f => wp (callT T f [.ins c fs, .ins c gs]) μ Q X := w_cmpO rfl
theorem q_o__add__ : wp (binT T .Add (.ins c fs) (.ins c gs)) μ Q X = wo ((T.cls[c]?).bind fun C => C.ms.lookup ("__add__" : Str)) fun f => wp (callT T f [.ins c fs, .ins c gs]) μ Q X := w_binO rfl
theorem q_o__or__ : wp (binT T .BitOr (.ins c fs) (.ins c gs)) μ Q X = wo ((T.cls[c]?).bind fun C => C.ms.lookup ("__or__" : Str)) fun f => wp (callT T f [.ins c fs, .ins c gs]) μ Q X := w_binO rfl
theorem q_osub : wp (subT T (.ins c fs) y) μ Q X = wo ((T.cls[c]?).bind fun C => C.ms.lookup ("__getitem__" : Str)) fun f => wp (callT T f [.ins c fs, y]) μ Q X := w_subO
theorem q_olen : wp (bltT T .len [.ins c fs]) μ Q X = wo ((T.cls[c]?).bind fun C => C.ms.lookup ("__len__" : Str)) fun f => wp (callT T f [.ins c fs]) μ (fun d μ => iQ d fun n => (0 ≤ n ∧ n < 2 ^ 62) ∧ Q (.int n) μ) X := w_lenO
theorem d_add_int : binD .Add (.int i) (.int j) = some (.int (i + j)) := (rfl)
theorem d_sub_int : binD .Sub (.int i) (.int j) = some (.int (i - j)) := (rfl)
theorem d_mul_int : binD .Mult (.int i) (.int j) = if mulOk i j = true then some (.int (i * j)) else none := (rfl)
theorem d_div_int : binD .FloorDiv (.int i) (.int j) = if divOk j = true then some (.int (i / j)) else none := (rfl)
theorem d_mod_int : binD .Mod (.int i) (.int j) = if 0 < j then some (.int (i % j)) else none := (rfl)
theorem d_pow_int : binD .Pow (.int i) (.int j) = if powOk i j = true then some (.int (i ^ j.toNat)) else none := (rfl)
theorem d_add_str : binD .Add (.str s) (.str s') = if s.length + s'.length ≤ sizeLine then some (.str (s ++ s')) else none := (rfl)
theorem d_add_lst : binD .Add (.lst ds) (.lst es) = if ds.length + es.length ≤ sizeLine then some (.lst (ds ++ es)) else none := (rfl)
theorem d_add_tup : binD .Add (.tup ds) (.tup es) = if ds.length + es.length ≤ sizeLine then some (.tup (ds ++ es)) else none := (rfl)
theorem d_mul_lst : binD .Mult (.lst ds) (.int j) = if -(2 ^ 63) ≤ j ∧ j < 2 ^ 63 ∧ ds.length * j.toNat ≤ sizeLine then some (.lst (List.replicate j.toNat ds).flatten) else none := (rfl)
theorem d_lt_int : cmpD .Lt (.int i) (.int j) = some (decide (i < j)) := (rfl)
theorem d_le_int : cmpD .LtE (.int i) (.int j) = some (decide (i ≤ j)) := (rfl)
theorem d_gt_int : cmpD .Gt (.int i) (.int j) = some (decide (j < i)) := (rfl)
theorem d_ge_int : cmpD .GtE (.int i) (.int j) = some (decide (j ≤ i)) := (rfl)
theorem d_in_dic : cmpD .In x (.dic ks ds) = (keyD x).map fun k => (dAt ks ds k).isSome := by cases x <;> rfl
theorem d_eq : cmpD .Eq x y = eqD x y := by cases x <;> cases y <;> rfl
theorem d_ne : cmpD .NotEq x y = (eqD x y).map (!·) := by cases x <;> cases y <;> rfl
theorem d_is_bl : cmpD .Is (.bl k) (.bl k') = some (k == k') := (rfl)
theorem d_is_non : cmpD .Is x .non = (isN x).map id := by cases x <;> rfl
theorem d_isnot_non : cmpD .IsNot x .non = (isN x).map (!·) := by cases x <;> rfl
theorem d_tru_bl : truD (.bl k) = some k := (rfl)
theorem d_tru_int : truD (.int i) = some (i != 0) := (rfl)
theorem d_tru_tup : truD (.tup ds) = some (!ds.isEmpty) := (rfl)
theorem d_tru_lst : truD (.lst ds) = some (!ds.isEmpty) := (rfl)
theorem d_tru_non : truD .non = some false := (rfl)
theorem d_ix_tup : subD (.tup ds) (.int i) = atI ds i := (rfl)
theorem d_ix_lst : subD (.lst ds) (.int i) = atI ds i := (rfl)
theorem d_ix_rol : subD (.rol ds) (.int i) = atI ds i := (rfl)
theorem d_ix_dic : subD (.dic ks ds) x = (keyD x).bind fun k => dAt ks ds k := (rfl)
theorem d_key_int : keyD (.int i) = some (.inl i) := (rfl)
theorem d_key_str : keyD (.str s) = some (.inr s) := (rfl)
theorem d_ln_tup : bltD .len [.tup ds] = some (.int ds.length) := (rfl)
theorem d_ln_lst : bltD .len [.lst ds] = some (.int ds.length) := (rfl)
theorem d_ln_rol : bltD .len [.rol ds] = some (.int ds.length) := (rfl)
theorem d_ln_dic : bltD .len [.dic ks ds] = some (.int ks.length) := (rfl)
theorem d_ln_str : bltD .len [.str s] = if s.length ≤ sizeLine then some (.int s.length) else none := (rfl)
theorem d_any_lst : bltD .any [.lst ds] = (bls? ds).map fun bs => .bl (bs.any id) := (rfl)
theorem d_all_lst : bltD .all [.lst ds] = (bls? ds).map fun bs => .bl (bs.all id) := (rfl)
theorem d_sum_lst : bltD .sum [.lst ds] = (ints? ds).map fun ns => .int ns.sum := (rfl)
theorem d_sorted_lst : bltD .sorted [.lst ds] = (ints? ds).bind fun ns => if ns.length < 64 then some (.lst ((sortI ns).map .int)) else none := (rfl)
theorem d_tuple_lst : bltD .tuple [.lst ds] = some (.tup ds) := (rfl)
theorem d_tuple_tup : bltD .tuple [.tup ds] = some (.tup ds) := (rfl)
theorem d_list_lst : bltD .list [.lst ds] = some (.lst ds) := (rfl)
theorem d_list_tup : bltD .list [.tup ds] = some (.lst ds) := (rfl)
theorem d_sorted_dic : bltD .sorted [.dic ks ds] = (intsK? ks).bind fun ns => if ns.length < 64 then some (.lst ((sortI ns).map .int)) else none := (rfl)
theorem d_list_dic : bltD .list [.dic ks ds] = some (.lst (ks.map kD)) := (rfl)
theorem d_abs_int : bltD .abs [.int i] = some (.int (if i < 0 then -i else i)) := (rfl)
theorem d_int_int : bltD .int [.int i] = some (.int i) := (rfl)
theorem d_int_bl : bltD .int [.bl k] = some (.int (if k = true then 1 else 0)) := (rfl)
theorem d_max_int : bltD .max2 [.int i, .int j] = some (.int (max i j)) := by
  show some (D.int (if j > i then j else i)) = _
  congr 2
  split <;> omega
theorem d_min_int : bltD .min2 [.int i, .int j] = some (.int (min i j)) := by
  show some (D.int (if j < i then j else i)) = _
  congr 2
  split <;> omega
theorem d_repr_bl : bltD .repr [.bl k] = some (.str (if k = true then "True" else "False")) := (rfl)
theorem d_repr_lst : bltD .repr [.lst ds] = shwD (.lst ds) := (rfl)
theorem d_repr_tup : bltD .repr [.tup ds] = shwD (.tup ds) := (rfl)
theorem d_its_lst : itemsD (.lst ds) = some ds := (rfl)
theorem d_its_tup : itemsD (.tup ds) = some ds := (rfl)
theorem d_sq_lst : seqD (.lst ds) = some ds := (rfl)
theorem d_sq_tup : seqD (.tup ds) = some ds := (rfl)
theorem d_slc_lst : slcD (.lst ds) l h = some (.lst (cutD ds l h)) := (rfl)
theorem d_slc_tup : slcD (.tup ds) l h = some (.tup (cutD ds l h)) := (rfl)
theorem d_zip_ll : zipK (.lst ds) (.lst es) = some (zipD ds es) := (rfl)
theorem d_zip_lt : zipK (.lst ds) (.tup es) = some (zipD ds es) := (rfl)
theorem d_zip_tt : zipK (.tup ds) (.tup es) = some (zipD ds es) := (rfl)
theorem d_zip_tl : zipK (.tup ds) (.lst es) = some (zipD ds es) := (rfl)
theorem d_bnd_name : bindT (.name c) x ρ = some (ρ.set c (some x)) := by simp only [bindT]
theorem d_bnd_tup : bindT (.tup ts) (.tup ds) ρ = bindTs ts ds ρ := by simp only [bindT]
theorem d_bnds_nil : bindTs [] [] ρ = some ρ := by simp only [bindTs]
theorem d_dic_y : isDic (.dic ks ds) = true := (rfl)
theorem d_bnds_cons {t : Tg} : bindTs (t :: ts) (x :: ds) ρ = (bindT t x ρ).bind fun ρ => bindTs ts ds ρ := by
  simp only [bindTs]
  cases bindT t x ρ <;> rfl
end
section
variable {T : Tab} {μ : Store} {C : Cl} {c i : Nat} {ds fs : List D} {d : D} {x : Str} {Q : D → Store → Prop} {X : Exc → Store → Prop}
/-- a new object, by its __init__ -/
theorem w_mkT (hC : T.cls[c]? = some C) (h : wp (callT T C.ini (.ref μ.length :: ds)) (μ ++ [.obj c []]) (fun d μ' => d = .non ∧ ∃ fs, μ' = μ ++ [.obj c fs] ∧ fs.length = C.fs.length ∧ Q (.ins c fs) μ) fun e μ' => D.nrL e.ds = true ∧ X e (μ'.take μ.length)) : wp (mkT T c ds) μ Q X := by
  have e : mkT T c ds μ = (match callT T C.ini (.ref μ.length :: ds) (μ ++ [.obj c []]) with
    | some (.ok .non, μ') => match μ'[μ.length]? with
      | some (.obj c' fs) => if c' = c ∧ fs.length = C.fs.length ∧ μ'.length = μ.length + 1 then some (.ok (.ins c fs), μ'.take μ.length) else none
      | _ => none
    | some (.error x, μ') => if D.nrL x.ds then some (.error x, μ'.take μ.length) else none
    | _ => none) := by
    show (match T.cls[c]? with | none => none | some C => _) = _
    rw [hC] <;> rfl
  rcases w_out h with ⟨a, μ', e1, rfl, fs, rfl, hl, q⟩ | ⟨z, μ', e1, hn, q⟩
  · rw [e1] at e
    dsimp only at e
    rw [List.getElem?_append_right (Nat.le_refl _), Nat.sub_self] at e
    dsimp only [List.getElem?_cons_zero] at e
    rw [if_pos ⟨rfl, hl, by rw [List.length_append]; rfl⟩, List.take_left] at e
    rw [w_of e]
    exact q
  · rw [e1] at e
    dsimp only at e
    rw [if_pos hn] at e
    rw [w_ofX e]
    exact q
theorem fldC_new (hC : T.cls[c]? = some C) (hi : C.fs.idxOf? x = some fs.length) (hd : d.nr = true) : fldC T (μ ++ [.obj c fs]) (.ref μ.length) x d = some (μ ++ [.obj c (fs ++ [d])]) := by
  unfold fldC
  dsimp only
  rw [if_pos hd, List.getElem?_append_right (Nat.le_refl _), Nat.sub_self]
  dsimp only [List.getElem?_cons_zero]
  rw [hC]
  show (C.fs.idxOf? x).bind _ = _
  rw [hi]
  show (if fs.length < fs.length then _ else if fs.length = fs.length then _ else _) = _
  rw [if_neg (Nat.lt_irrefl _), if_pos rfl, List.set_append_right _ _ (Nat.le_refl _), Nat.sub_self]
  rfl
end
section
variable {μ : Store} {xs ds : List D} {Q : D → Store → Prop} {X : Exc → Store → Prop}
/-- an own list at the end of the store -/
theorem own_app (hd : D.nrL ds = true) (hl : xs.length + ds.length ≤ sizeLine) : appC (μ ++ [.own xs]) (.ref μ.length) ds = some (μ ++ [.own (xs ++ ds)]) := by
  unfold appC
  dsimp only
  rw [List.getElem?_append_right (Nat.le_refl _), Nat.sub_self]
  dsimp only [List.getElem?_cons_zero]
  rw [if_pos ⟨hd, hl⟩, List.set_append_right _ _ (Nat.le_refl _), Nat.sub_self]
  rfl
theorem own_frz : wp (frzD (.ref μ.length)) (μ ++ [.own xs]) Q X = Q (.lst xs) (μ ++ [.frz (.lst xs)]) := by
  refine w_of ?_
  have e : (μ ++ [Cell.own xs])[μ.length]? = some (.own xs) := by
    rw [List.getElem?_append_right (Nat.le_refl _), Nat.sub_self]
    rfl
  simp only [frzD, e]
  rw [List.set_append_right _ _ (Nat.le_refl _), Nat.sub_self]
  rfl
theorem own_look : look (μ ++ [.own xs]) (.ref μ.length) = .lst xs := by
  show (match (μ ++ [Cell.own xs])[μ.length]? with | some (.own xs) => D.lst xs | some (.shr xs) => .lst xs | some (.frz d) => d | some (.dct ks xs) => .dic ks xs | _ => .ref μ.length) = _
  rw [List.getElem?_append_right (Nat.le_refl _), Nat.sub_self]
  rfl
end
end Sg
/-! Sx: the steps of pop, list(..) that is changed, count, sorted(set(..)), e[::-1], texts, as equations. -/
namespace Sg
open PySem L2
section
variable {α β : Type} {T : Tab} {ρ ρ1 ρ2 : Rho} {μ μ1 μ2 μ3 : Store} {d x y z : D} {a b c e o i : E} {es : List E} {ds : List D} {Q : D → Store → Prop} {QL : List D → Store → Prop} {QB : Bool → Store → Prop} {QO : Option Int → Store → Prop} {QS : Fl → Rho → Store → Prop} {QF : Str → Store → Prop} {X : Exc → Store → Prop}
theorem w_pop : wp (evalE T (.pop o i) ρ) μ Q X = wp (evalE T o ρ) μ (fun o μ => isOwn μ o = true ∧ wp (evalE T i ρ) μ (fun y μ => iQ y fun i => wo (popC μ o i) fun r => Q r.1 r.2) X) X := by
  simp only [evalE, w_bd]
  congr
  funext o μ
  by_cases h : isOwn μ o = true
  · rw [w_congr (y := bd (evalE T i ρ) (fun y μ' => match y with
    | .int i => (match popC μ' o i with
      | some (d, μ2) => some (.ok d, μ2)
      | none => none)
    | _ => none)) (by rw [if_pos h] <;> rfl), w_bd]
    rw [eq_true h, true_and]
    congr
    funext y μ
    cases y with
    | int k =>
      show wp (fun μ' => match popC μ' o k with
        | some (d, μ2) => some (.ok d, μ2)
        | none => none) μ Q X = wo (popC μ o k) fun r => Q r.1 r.2
      unfold wp
      dsimp only
      cases popC μ o k <;> rfl
    | _ => rfl
  · rw [w_congr (y := up none) (by rw [if_neg h]; rfl), w_up, wo_none, eq_false h, false_and]
theorem w_ownl : wp (evalE T (.ownl e) ρ) μ Q X = wp (evalE T e ρ) μ (fun d μ => wo (seqD (look μ d)) fun xs => D.nrL xs = true ∧ Q (.ref μ.length) (μ ++ [.own xs])) X := by
  simp only [evalE, w_bd]
  congr
  funext d μ
  unfold wp
  dsimp only
  cases seqD (look μ d) with
  | none => rfl
  | some xs =>
    dsimp only [wo]
    by_cases h : D.nrL xs = true <;> simp [h]
theorem w_cnt : wp (evalE T (.cnt o a) ρ) μ Q X = wp (evalE T o ρ) μ (fun d μ => isLst (look μ d) = true ∧ wp (evalE T a ρ) μ (fun y μ => wp (cntD (look μ d) y) μ Q X) X) X := by
  simp only [evalE, w_bd]
  congr
  funext d μ
  by_cases h : isLst (look μ d) = true
  · rw [w_congr (y := bd (evalE T a ρ) (fun y μ' => cntD (look μ' d) y μ')) (by rw [if_pos h]), w_bd, eq_true h, true_and]
    rfl
  · rw [w_congr (y := up none) (by rw [if_neg h]; rfl), w_up, wo_none, eq_false h, false_and]
theorem w_cntI {k : Int} : wp (cntD (.lst ds) (.int k)) μ Q X = wo (ints? ds) fun ns => Q (.int (ns.count k)) μ := by
  unfold wp cntD
  dsimp only
  cases ints? ds <;> rfl
theorem isLst_lst : isLst (.lst ds) = true := (rfl)
def lstD : D → Option (List D)
  | .lst xs => some xs
  | _ => none
theorem lstD_lst : lstD (.lst ds) = some ds := (rfl)
theorem w_sset : wp (evalE T (.sset e) ρ) μ Q X = wp (evalE T e ρ) μ (fun d μ => wo (lstD (look μ d)) fun xs => wo (ints? xs) fun ns => ns.length < 64 ∧ Q (.lst ((srtU ns).map .int)) μ) X := by
  simp only [evalE, w_bd]
  congr
  funext d μ
  unfold wp
  dsimp only
  cases look μ d with
  | lst xs =>
    dsimp only [wo, lstD]
    cases ints? xs with
    | none => rfl
    | some ns =>
      dsimp only
      by_cases h : ns.length < 64 <;> simp [h]
  | _ => rfl
theorem w_rev : wp (evalE T (.rev e) ρ) μ Q X = wp (evalE T e ρ) μ (fun d μ => wo (lstD (look μ d)) fun xs => Q (.lst xs.reverse) μ) X := by
  simp only [evalE, w_bd]
  congr
  funext d μ
  unfold wp
  dsimp only
  cases look μ d with
  | _ => rfl
theorem w_fs : wp (evalE T (.fs es) ρ) μ Q X = wp (evalF T es ρ Str.empty) μ (fun x μ => Q (.str x) μ) X := by
  simp only [evalE, w_bd, w_rt]
theorem wf_nil {acc : Str} : wp (evalF T [] ρ acc) μ QF X = QF acc μ := by simp only [evalF, w_rt]
theorem wf_cons {acc : Str} : wp (evalF T (e :: es) ρ acc) μ QF X = wp (evalE T e ρ) μ (fun d μ => wo (fmtD d) fun y => (acc ++ y).length ≤ sizeLine ∧ wp (evalF T es ρ (acc ++ y)) μ QF X) X := by
  simp only [evalF, w_bd]
  congr
  funext d μ
  cases fmtD d with
  | none => rfl
  | some y =>
    simp only [wo_some, w_ite, w_up, wo_none]
    by_cases h : (acc ++ y).length ≤ sizeLine <;> simp [h]
/-- str(..) -/
def strT (T : Tab) (d : D) : M D := fun μ => match d with
    | .ins c fs => (match opN T μ "__str__" (.ins c fs) with
      | some f => bd (callT T f [.ins c fs]) (fun z => match z with
        | .str x => rt (.str x)
        | _ => up none) μ
      | none => none)
    | d => up ((fmtD d).map .str) μ
def sQ (x : D) (P : Str → Prop) : Prop := match x with
  | .str k => P k
  | _ => False
theorem sQ_str {k : Str} {P : Str → Prop} : sQ (.str k) P = P k := (rfl)
theorem w_strf : wp (evalE T (.strf e) ρ) μ Q X = wp (evalE T e ρ) μ (fun d μ => wp (strT T d) μ Q X) X := by
  simp only [evalE, w_bd]
  rfl
theorem w_strI {k : Int} : wp (strT T (.int k)) μ Q X = (k.natAbs.log2 < 1920 ∧ Q (.str (Str.ofString (toString k))) μ) := by
  unfold wp strT fmtD
  dsimp only
  by_cases h : k.natAbs.log2 < 1920 <;> simp [h, up]
theorem w_strO {c : Nat} {fs : List D} : wp (strT T (.ins c fs)) μ Q X = wo ((T.cls[c]?).bind fun C => C.ms.lookup ("__str__" : Str)) fun f => wp (callT T f [.ins c fs]) μ (fun d μ => sQ d fun x => Q (.str x) μ) X := by
  cases h : (T.cls[c]?).bind fun C => C.ms.lookup ("__str__" : Str) with
  | none =>
    rw [w_congr (y := up none) (by show (match opN T μ "__str__" (.ins c fs) with | some f => _ | none => none) = _; rw [show opN T μ "__str__" (.ins c fs) = none from h]; rfl)]
    rfl
  | some f =>
    rw [w_congr (y := bd (callT T f [.ins c fs]) (fun (z : D) => match z with
        | .str x => rt (.str x)
        | _ => up none)) (by show (match opN T μ "__str__" (.ins c fs) with | some f => _ | none => none) = _; rw [show opN T μ "__str__" (.ins c fs) = some f from h]), w_bd, wo_some]
    congr
    funext d μ
    cases d <;> rfl
theorem d_fmt_int {k : Int} : fmtD (.int k) = if k.natAbs.log2 < 1920 then some (Str.ofString (toString k)) else none := (rfl)
theorem d_fmt_str {k : Str} : fmtD (.str k) = if k.length ≤ sizeLine then some k else none := (rfl)
theorem d_notin_lst : cmpD .NotIn x (.lst ds) = (inD x ds).map (!·) := by cases x <;> rfl
theorem d_in_lst : cmpD .In x (.lst ds) = inD x ds := by cases x <;> rfl
theorem d_bnd_lst {ts : List Tg} : bindT (.tup ts) (.lst ds) ρ = bindTs ts ds ρ := by simp only [bindT]
theorem wl_pop {a b : E} : wp (evalL T ((E.pop a b) :: es) ρ) μ QL X = wp (evalE T (E.pop a b) ρ) μ (fun x μ => wp (evalL T es ρ) μ (fun xs μ => QL (x :: xs) μ) X) X := wl_cons rfl
theorem wl_ownl {a : E} : wp (evalL T ((E.ownl a) :: es) ρ) μ QL X = wp (evalE T (E.ownl a) ρ) μ (fun x μ => wp (evalL T es ρ) μ (fun xs μ => QL (x :: xs) μ) X) X := wl_cons rfl
theorem wl_cnt {a b : E} : wp (evalL T ((E.cnt a b) :: es) ρ) μ QL X = wp (evalE T (E.cnt a b) ρ) μ (fun x μ => wp (evalL T es ρ) μ (fun xs μ => QL (x :: xs) μ) X) X := wl_cons rfl
theorem wl_sset {a : E} : wp (evalL T ((E.sset a) :: es) ρ) μ QL X = wp (evalE T (E.sset a) ρ) μ (fun x μ => wp (evalL T es ρ) μ (fun xs μ => QL (x :: xs) μ) X) X := wl_cons rfl
theorem wl_rev {a : E} : wp (evalL T ((E.rev a) :: es) ρ) μ QL X = wp (evalE T (E.rev a) ρ) μ (fun x μ => wp (evalL T es ρ) μ (fun xs μ => QL (x :: xs) μ) X) X := wl_cons rfl
theorem wl_fs {xs : List E} : wp (evalL T ((E.fs xs) :: es) ρ) μ QL X = wp (evalE T (E.fs xs) ρ) μ (fun x μ => wp (evalL T es ρ) μ (fun xs μ => QL (x :: xs) μ) X) X := wl_cons rfl
theorem wl_strf {a : E} : wp (evalL T ((E.strf a) :: es) ρ) μ QL X = wp (evalE T (E.strf a) ρ) μ (fun x μ => wp (evalL T es ρ) μ (fun xs μ => QL (x :: xs) μ) X) X := wl_cons rfl
end
end Sg
/-! Sy: the steps of f(lambda: e), raise, try, as equations. -/
namespace Sg
open PySem L2
section
variable {α β : Type} {T : Tab} {ρ ρ1 ρ2 : Rho} {μ μ1 μ2 μ3 : Store} {d x y z : D} {a b c e o i : E} {es : List E} {ds : List D} {Q : D → Store → Prop} {QL : List D → Store → Prop} {QS : Fl → Rho → Store → Prop} {X : Exc → Store → Prop}
/-- an exception's way through clauses -/
def wh (xs : List Xc) (x : Exc) (hs : List Hd) (P : Option D → Prop) : Prop := wo (hdl xs x hs) P
theorem wh_nil {xs : List Xc} {x : Exc} {P : Option D → Prop} : wh xs x [] P = P none := (rfl)
theorem wh_cons {xs : List Xc} {x : Exc} {h : Hd} {r : List Hd} {P : Option D → Prop} : wh xs x (h :: r) P = wo xs[x.c]? fun k => if h.c ∈ k.up then wo (hdE xs x h.he) (fun d => P (some d)) else wh xs x r P := by
  unfold wh
  simp only [hdl]
  cases xs[x.c]? with
  | none => rfl
  | some k =>
    show wo (if h.c ∈ k.up then (hdE xs x h.he).map some else hdl xs x r) P = if h.c ∈ k.up then _ else _
    by_cases hh : h.c ∈ k.up
    · rw [if_pos hh, if_pos hh, wo_map]
    · rw [if_neg hh, if_neg hh]
theorem h_con {xs : List Xc} {x : Exc} {d : D} : hdE xs x (.con d) = some d := (rfl)
theorem h_att {xs : List Xc} {x : Exc} {f : Str} : hdE xs x (.att f) = xat xs x f := (rfl)
theorem h_rep {xs : List Xc} {x : Exc} {y f : Str} : hdE xs x (.rep y f) = (xat xs x f).bind fun d => (repD d).bind fun z => binD .Add (.str y) z := (rfl)
theorem h_cat {xs : List Xc} {x : Exc} {y f : Str} : hdE xs x (.cat y f) = (xat xs x f).bind fun d => binD .Add (.str y) d := (rfl)
theorem h_isi {xs : List Xc} {x : Exc} {y z : Str} {c : Nat} : hdE xs x (.isi c y z) = (xs[x.c]?).bind fun k => if k.att = none then some (if c ∈ k.up then .str y else .str z) else none := (rfl)
theorem h_xat {xs : List Xc} {n : Nat} {d : D} {f : Str} : wo (xat xs ⟨n, [d]⟩ f) P = wo xs[n]? fun k => k.att = some f ∧ P d := by
  unfold xat
  cases xs[n]? with
  | none => rfl
  | some k =>
    show wo (if k.att = some f then some d else none) P = _
    rw [wo_ite]
    rfl
theorem w_lam {f : Nat} : wp (evalE T (.lam f e) ρ) μ Q X = wo T.x.cats[f]? fun c => wp (evalE T.plain e ρ) μ (fun d μ => if c.ret = true then Q d μ else wo c.fin fun d => Q d μ) (fun x μ => wh T.x.xcs x c.hs fun o => wo o fun d => Q d μ) := by
  simp only [evalE]
  cases T.x.cats[f]? with
  | none => rfl
  | some c =>
    show wp (catM T.x.xcs c (evalE T.plain e ρ)) μ Q X = wp (evalE T.plain e ρ) μ (fun d μ => if c.ret = true then Q d μ else wo c.fin fun d => Q d μ) (fun x μ => wh T.x.xcs x c.hs fun o => wo o fun d => Q d μ)
    unfold wp catM
    cases evalE T.plain e ρ μ with
    | none => rfl
    | some r =>
      obtain ⟨r1, μ1⟩ := r
      cases r1 with
      | ok d =>
        dsimp only
        by_cases h : c.ret = true
        · rw [if_pos h, if_pos h]
        · rw [if_neg h, if_neg h]
          cases c.fin <;> rfl
      | error x =>
        dsimp only
        unfold wh
        cases hdl T.x.xcs x c.hs with
        | none => rfl
        | some o => cases o <;> rfl
theorem wl_lam {f : Nat} : wp (evalL T (.lam f e :: es) ρ) μ QL X = wp (evalE T (.lam f e) ρ) μ (fun x μ => wp (evalL T es ρ) μ (fun xs μ => QL (x :: xs) μ) X) X := by
  simp only [evalL, w_bd, w_rt]
theorem s_rai {c : Nat} : ws (execS T (.rai c e) ρ μ) QS = wo T.x.xcs[c]? fun k => k.att.isSome = true ∧ wp (evalE T e ρ) μ (fun d μ => QS (.exc ⟨c, [d]⟩) ρ μ) (fun x μ => QS (.exc x) ρ μ) := by
  simp only [execS]
  cases T.x.xcs[c]? with
  | none => rfl
  | some k =>
    show ws (if k.att.isSome = true then andS (evalE T e ρ) ρ (fun d μ' => some (Fl.exc ⟨c, [d]⟩, ρ, μ')) μ else none) QS = (k.att.isSome = true ∧ _)
    by_cases h : k.att.isSome = true
    · rw [if_pos h, eq_true h, true_and]
      unfold andS ws wp
      cases evalE T e ρ μ with
      | none => rfl
      | some r =>
        obtain ⟨r1, μ1⟩ := r
        cases r1 <;> rfl
    · rw [if_neg h, eq_false h, false_and]
      rfl
theorem s_rai0 {c : Nat} : ws (execS T (.rai0 c) ρ μ) QS = wo T.x.xcs[c]? fun k => k.att.isNone = true ∧ QS (.exc ⟨c, []⟩) ρ μ := by
  simp only [execS]
  cases T.x.xcs[c]? with
  | none => rfl
  | some k =>
    show ws (if k.att.isNone = true then some (Fl.exc ⟨c, []⟩, ρ, μ) else none) QS = (k.att.isNone = true ∧ _)
    by_cases h : k.att.isNone = true
    · rw [if_pos h, eq_true h, true_and]
      rfl
    · rw [if_neg h, eq_false h, false_and]
      rfl
/-- behind a try's body -/
def triQ (xs : List Xc) (hs : List Hd) (QS : Fl → Rho → Store → Prop) : Fl → Rho → Store → Prop
  | .exc x, ρ, μ => wh xs x hs fun o => match o with
    | some d => QS (.ret d) ρ μ
    | none => QS (.exc x) ρ μ
  | f, ρ, μ => QS f ρ μ
theorem tri_next {xs : List Xc} {hs : List Hd} : triQ xs hs QS .next ρ μ = QS .next ρ μ := (rfl)
theorem tri_ret {xs : List Xc} {hs : List Hd} : triQ xs hs QS (.ret d) ρ μ = QS (.ret d) ρ μ := (rfl)
theorem tri_exc {xs : List Xc} {hs : List Hd} {x : Exc} : triQ xs hs QS (.exc x) ρ μ = wh xs x hs fun o => match o with
    | some d => QS (.ret d) ρ μ
    | none => QS (.exc x) ρ μ := (rfl)
theorem s_tri {b : List S} {hs : List Hd} : ws (execS T (.tri b hs) ρ μ) QS = ws (execL T b ρ μ) (triQ T.x.xcs hs QS) := by
  simp only [execS]
  cases execL T b ρ μ with
  | none => rfl
  | some r =>
    obtain ⟨f, ρ1, μ1⟩ := r
    cases f with
    | exc x =>
      show ws (match hdl T.x.xcs x hs with
        | some (some d) => some (Fl.ret d, ρ1, μ1)
        | some none => some (Fl.exc x, ρ1, μ1)
        | none => none) QS = wh T.x.xcs x hs fun o => match o with
        | some d => QS (.ret d) ρ1 μ1
        | none => QS (.exc x) ρ1 μ1
      unfold wh
      cases hdl T.x.xcs x hs with
      | none => rfl
      | some o => cases o <;> rfl
    | _ => rfl
theorem q_repr2 : bltD .repr [d] = repD d := (rfl)
theorem r_bl {b : Bool} : repD (.bl b) = some (.str (if b then "True" else "False")) := (rfl)
theorem r_non : repD .non = some (.str "None") := (rfl)
theorem r_int {i : Int} : repD (.int i) = if i.natAbs.log2 < 1920 then some (.str (Str.ofString (toString i))) else none := (rfl)
theorem r_str {x : Str} : repD (.str x) = if (reprText x).length ≤ sizeLine then some (.str (reprText x)) else none := (rfl)
theorem r_emp : repD (.dic [] []) = some (.str "{}") := (rfl)
theorem r_lst {xs : List D} : repD (.lst xs) = shwD (.lst xs) := (rfl)
theorem r_tup {xs : List D} : repD (.tup xs) = shwD (.tup xs) := (rfl)
end
end Sg
/-! Sz: the steps of match, op=, while, as equations. -/
namespace Sg
open PySem L2
section
variable {α β : Type} {T : Tab} {ρ ρ1 ρ2 : Rho} {μ μ1 μ2 μ3 : Store} {d x y z : D} {e : E} {c r : S} {ds : List D} {Q : D → Store → Prop} {QS : Fl → Rho → Store → Prop} {X : Exc → Store → Prop}
theorem s_mat : ws (execS T (.mat e c) ρ μ) QS = wp (evalE T e ρ) μ (fun d μ => ws (execC T c d ρ μ) QS) (fun x μ => QS (.exc x) ρ μ) := by
  simp only [execS]
  unfold andS ws wp
  cases evalE T e ρ μ with
  | none => rfl
  | some r =>
    obtain ⟨r1, μ1⟩ := r
    cases r1 <;> rfl
/-- behind a pattern -/
def mQ (T : Tab) (b : List S) (r : S) (d : D) (ρ : Rho) (μ : Store) (QS : Fl → Rho → Store → Prop) : Option (List (Nat × D)) → Prop
  | none => ws (execC T r d ρ μ) QS
  | some bs => ws (execL T b (bindsR bs ρ) μ) QS
theorem mQ_none {b : List S} : mQ T b r d ρ μ QS none = ws (execC T r d ρ μ) QS := (rfl)
theorem mQ_some {b : List S} {bs : List (Nat × D)} : mQ T b r d ρ μ QS (some bs) = ws (execL T b (bindsR bs ρ) μ) QS := (rfl)
theorem c_cas {p : Pt} {b : List S} : ws (execC T (.cas p b r) d ρ μ) QS = wo (matP p d) (mQ T b r d ρ μ QS) := by
  simp only [execC]
  cases matP p d with
  | none => rfl
  | some o => cases o <;> rfl
theorem c_nomore : ws (execC T .nomore d ρ μ) QS = QS .next ρ μ := by
  simp only [execC]
  rfl
theorem b_nil : bindsR [] ρ = ρ := (rfl)
theorem b_cons {i : Nat} {bs : List (Nat × D)} : bindsR ((i, d) :: bs) ρ = bindsR bs (ρ.set i (some d)) := (rfl)
theorem p_one {p : P1} : matP (.one p) d = mat1 p d := (rfl)
theorem p_or {xs : List Str} : matP (.or xs) d = matO xs d := (rfl)
theorem p_seq {ps : List P1} : matP (.seq ps) (.tup ds) = if ds.length = ps.length then matL ps ds else some none := (rfl)
theorem p_lit {x : Str} : mat1 (.lit x) d = (eqD d (.str x)).map fun b => if b then some [] else none := (rfl)
theorem p_nm {i : Nat} : mat1 (.nm i) d = some (some [(i, d)]) := (rfl)
theorem p_wild : mat1 .wild d = some (some []) := (rfl)
theorem p_nil : matL [] [] = some (some []) := (rfl)
theorem p_cons {p : P1} {ps : List P1} : matL (p :: ps) (d :: ds) = (mat1 p d).bind fun o => match o with
    | none => some none
    | some bs => (matL ps ds).bind fun o' => match o' with
      | none => some none
      | some cs => some (some (bs ++ cs)) := by
  simp only [matL]
  cases mat1 p d with
  | none => rfl
  | some o =>
    cases o with
    | none => rfl
    | some bs =>
      cases matL ps ds with
      | none => rfl
      | some o' => cases o' <;> rfl
theorem o_nil : matO [] d = some none := (rfl)
theorem o_cons {x : Str} {xs : List Str} : matO (x :: xs) d = (eqD d (.str x)).bind fun b => if b then some (some []) else matO xs d := by
  simp only [matO]
  cases eqD d (.str x) with
  | none => rfl
  | some b => cases b <;> rfl
theorem s_aug {i : Nat} {op : Operator} {a : Int} (h : ρ[i]? = some (some (.int a))) : ws (execS T (.aug i op e) ρ μ) QS = wp (evalE T e ρ) μ (fun d μ => iQ d fun b => augOk op = true ∧ wo (binD op (.int a) (.int b)) fun z => QS .next (ρ.set i (some z)) μ) (fun x μ => QS (.exc x) ρ μ) := by
  simp only [execS, h]
  unfold andS ws wp
  cases evalE T e ρ μ with
  | none => rfl
  | some r =>
    obtain ⟨r1, μ1⟩ := r
    cases r1 with
    | error x => rfl
    | ok d =>
      cases d with
      | int b =>
        show (match (if augOk op = true then (binD op (.int a) (.int b)).map fun z => (Fl.next, ρ.set i (some z), μ1) else none) with
          | some (f, ρ, μ) => QS f ρ μ
          | none => False) = (augOk op = true ∧ wo (binD op (.int a) (.int b)) fun z => QS .next (ρ.set i (some z)) μ1)
        by_cases ho : augOk op = true
        · rw [if_pos ho, eq_true ho, true_and]
          cases binD op (.int a) (.int b) <;> rfl
        · rw [if_neg ho, eq_false ho, false_and]
      | _ => rfl
/-- a while by an invariant with a measure -/
theorem whl_inv {n : Nat} {cb : B} {body : List S} (I : Nat → Rho → Store → Prop) (h0 : ∃ k, k < n ∧ I k ρ μ)
    (ht : ∀ k ρ μ, I k ρ μ → wp (evalT T cb ρ) μ (fun b μ1 => if b = true then ws (execL T body ρ μ1) (fun f ρ2 μ2 => match f with
      | .next => ∃ k', k' < k ∧ I k' ρ2 μ2
      | .cont => ∃ k', k' < k ∧ I k' ρ2 μ2
      | .brk => QS .next ρ2 μ2
      | f => QS f ρ2 μ2) else QS .next ρ μ1) (fun x μ => QS (.exc x) ρ μ)) : ws (execS T (.whl n cb body) ρ μ) QS := by
  simp only [execS]
  obtain ⟨k, hk, hi⟩ := h0
  induction n generalizing k ρ μ with
  | zero => omega
  | succ n ih =>
    have q := ht k ρ μ hi
    simp only [whlM]
    unfold wp at q
    unfold andS
    cases e1 : evalT T cb ρ μ with
    | none =>
      rw [e1] at q
      exact q.elim
    | some z =>
      obtain ⟨z1, μ1⟩ := z
      rw [e1] at q
      cases z1 with
      | error x => exact q
      | ok b =>
        cases b with
        | false =>
          have q : (if false = true then _ else QS .next ρ μ1) := q
          rw [if_neg (by decide)] at q
          exact q
        | true =>
          have q : (if true = true then _ else _) := q
          rw [if_pos rfl] at q
          show ws (match execL T body ρ μ1 with
            | some (.next, ρ2, μ2) => whlM (fun ρ => evalT T cb ρ) (fun ρ μ => execL T body ρ μ) n ρ2 μ2
            | some (.cont, ρ2, μ2) => whlM (fun ρ => evalT T cb ρ) (fun ρ μ => execL T body ρ μ) n ρ2 μ2
            | some (.brk, ρ2, μ2) => some (.next, ρ2, μ2)
            | z => z) QS
          unfold ws at q
          cases e2 : execL T body ρ μ1 with
          | none =>
            rw [e2] at q
            exact q.elim
          | some y =>
            obtain ⟨f, ρ2, μ2⟩ := y
            rw [e2] at q
            cases f with
            | next =>
              obtain ⟨k', h1, h2⟩ := q
              exact ih k' (by omega) h2
            | cont =>
              obtain ⟨k', h1, h2⟩ := q
              exact ih k' (by omega) h2
            | brk => exact q
            | ret d => exact q
            | exc x => exact q
theorem d_in_tup {ys : List D} : cmpD .In x (.tup ys) = inT x ys := by cases x <;> rfl
theorem d_notin_tup {ys : List D} : cmpD .NotIn x (.tup ys) = (inT x ys).map (!·) := by cases x <;> rfl
end
end Sg
/-! Rw: rows by their kinds, in plain mathematics. -/
namespace Rw
abbrev Kd := List (Int × Int)
/-- the places with a degree of at most x -/
def upto : Kd → Int → Int
  | [], _ => 0
  | (d, c) :: r, x => (if d ≤ x then c else 0) + upto r x
def tot : Kd → Int
  | [] => 0
  | (_, c) :: r => c + tot r
def Pos (ks : Kd) : Prop := ∀ p ∈ ks, 1 ≤ p.2
def Asc (ks : Kd) : Prop := ks.Pairwise fun p q => p.1 < q.1
/-- the degree at an index; b places lie ahead, l is the last degree that was seen -/
def dgF (b : Int) : Kd → Int → Int → Int
  | [], l, _ => l
  | (d, c) :: r, _, i => if i < b + c then d else dgF (b + c) r d i
def dg (ks : Kd) (i : Int) : Int := dgF 0 ks 0 i
/-- pairs of the first and the last index -/
def strF (b : Int) : Kd → List (Int × Int)
  | [] => []
  | (_, c) :: r => (b, b + c - 1) :: strF (b + c) r
theorem Pos.tail {p : Int × Int} {r : Kd} (h : Pos (p :: r)) : Pos r := fun q hq => h q (List.mem_cons_of_mem _ hq)
theorem Pos.head {p : Int × Int} {r : Kd} (h : Pos (p :: r)) : 1 ≤ p.2 := h p (List.mem_cons_self ..)
theorem Asc.tail {p : Int × Int} {r : Kd} (h : Asc (p :: r)) : Asc r := (List.pairwise_cons.mp h).2
theorem Asc.head {p : Int × Int} {r : Kd} (h : Asc (p :: r)) : ∀ q ∈ r, p.1 < q.1 := (List.pairwise_cons.mp h).1
theorem upto_nonneg : ∀ {ks : Kd}, Pos ks → ∀ x, 0 ≤ upto ks x
  | [], _, _ => Int.le_refl 0
  | (d, c) :: r, h, x => by
    have := upto_nonneg h.tail x
    have hc := h.head
    show 0 ≤ (if d ≤ x then c else 0) + upto r x
    have hc : 1 ≤ c := hc
    split <;> omega
theorem upto_le_tot : ∀ {ks : Kd}, Pos ks → ∀ x, upto ks x ≤ tot ks
  | [], _, _ => Int.le_refl 0
  | (d, c) :: r, h, x => by
    have := upto_le_tot h.tail x
    have hc : 1 ≤ c := h.head
    show (if d ≤ x then c else 0) + upto r x ≤ c + tot r
    split <;> omega
theorem upto_zero : ∀ {ks : Kd} {x : Int}, (∀ p ∈ ks, x < p.1) → upto ks x = 0
  | [], _, _ => rfl
  | (d, c) :: r, x, h => by
    have h1 : x < d := h (d, c) (List.mem_cons_self ..)
    show (if d ≤ x then c else 0) + upto r x = 0
    rw [upto_zero fun p hp => h p (List.mem_cons_of_mem _ hp), if_neg (by omega)]
    rfl
theorem upto_all : ∀ {ks : Kd} {x : Int}, (∀ p ∈ ks, p.1 ≤ x) → upto ks x = tot ks
  | [], _, _ => rfl
  | (d, c) :: r, x, h => by
    have h1 : d ≤ x := h (d, c) (List.mem_cons_self ..)
    show (if d ≤ x then c else 0) + upto r x = c + tot r
    rw [upto_all fun p hp => h p (List.mem_cons_of_mem _ hp), if_pos h1]
theorem tot_nonneg {ks : Kd} (h : Pos ks) : 0 ≤ tot ks := Int.le_trans (upto_nonneg h 0) (upto_le_tot h 0)
theorem upto_mono {ks : Kd} (h : Pos ks) {x y : Int} (hxy : x ≤ y) : upto ks x ≤ upto ks y := by
  induction ks with
  | nil => exact Int.le_refl 0
  | cons p r ih =>
    obtain ⟨d, c⟩ := p
    have := ih h.tail
    have hc : 1 ≤ c := h.head
    show (if d ≤ x then c else 0) + upto r x ≤ (if d ≤ y then c else 0) + upto r y
    split <;> split <;> omega
theorem dgF_le : ∀ {ks : Kd} {b l i x : Int}, Pos ks → Asc ks → b ≤ i → i < b + tot ks → (dgF b ks l i ≤ x ↔ i < b + upto ks x)
  | [], b, l, i, x, _, _, h1, h2 => by
    have h2 : i < b + 0 := h2
    omega
  | (d, c) :: r, b, l, i, x, hp, ha, h1, h2 => by
    have h2 : i < b + (c + tot r) := h2
    have hc : 1 ≤ c := hp.head
    have u0 := upto_nonneg hp.tail x
    have hz : x < d → upto r x = 0 := fun h => upto_zero fun q hq => by
      have := ha.head q hq
      have : d < q.1 := this
      omega
    show ((if i < b + c then d else dgF (b + c) r d i) ≤ x ↔ i < b + ((if d ≤ x then c else 0) + upto r x))
    by_cases hi : i < b + c
    · rw [if_pos hi]
      by_cases hd : d ≤ x
      · rw [if_pos hd]
        omega
      · rw [if_neg hd, hz (by omega)]
        omega
    · rw [if_neg hi, dgF_le hp.tail ha.tail (by omega) (by omega)]
      by_cases hd : d ≤ x
      · rw [if_pos hd]
        omega
      · rw [if_neg hd, hz (by omega)]
        omega
theorem dg_le {ks : Kd} {i x : Int} (hp : Pos ks) (ha : Asc ks) (h1 : 0 ≤ i) (h2 : i < tot ks) : dg ks i ≤ x ↔ i < upto ks x := by
  have := dgF_le (b := 0) (l := 0) (x := x) hp ha h1 (by omega)
  unfold dg
  rw [this]
  omega
/-- rows with the same counts are the same -/
theorem upto_inj : ∀ {ks ks' : Kd}, Pos ks → Asc ks → Pos ks' → Asc ks' → (∀ x, upto ks x = upto ks' x) → ks = ks'
  | [], [], _, _, _, _, _ => rfl
  | [], (d, c) :: r, _, _, hp, _, h => by
    have e : (0 : Int) = (if d ≤ d then c else 0) + upto r d := h d
    have hc : 1 ≤ c := hp.head
    have := upto_nonneg hp.tail d
    rw [if_pos (Int.le_refl d)] at e
    omega
  | (d, c) :: r, [], hp, _, _, _, h => by
    have e : (if d ≤ d then c else 0) + upto r d = (0 : Int) := h d
    have hc : 1 ≤ c := hp.head
    have := upto_nonneg hp.tail d
    rw [if_pos (Int.le_refl d)] at e
    omega
  | (d, c) :: r, (d', c') :: r', hp, ha, hp', ha', h => by
    have hc : 1 ≤ c := hp.head
    have hc' : 1 ≤ c' := hp'.head
    have key : ∀ x, (if d ≤ x then c else 0) + upto r x = (if d' ≤ x then c' else 0) + upto r' x := h
    have z : ∀ x, x ≤ d → upto r x = 0 := fun x hx => upto_zero fun q hq => by
      have : d < q.1 := ha.head q hq
      omega
    have z' : ∀ x, x ≤ d' → upto r' x = 0 := fun x hx => upto_zero fun q hq => by
      have : d' < q.1 := ha'.head q hq
      omega
    have hd : d = d' := by
      rcases Int.lt_trichotomy d d' with q | q | q
      · have e := key d
        rw [if_pos (Int.le_refl d), if_neg (by omega), z d (Int.le_refl d), z' d (by omega)] at e
        omega
      · exact q
      · have e := key d'
        rw [if_pos (Int.le_refl d'), if_neg (by omega), z d' (by omega), z' d' (Int.le_refl d')] at e
        omega
    subst hd
    have e := key d
    rw [if_pos (Int.le_refl d), z d (Int.le_refl d), z' d (Int.le_refl d)] at e
    have ec : c = c' := by omega
    subst ec
    have er : r = r' := upto_inj hp.tail ha.tail hp'.tail ha'.tail fun x => by
      have := key x
      omega
    rw [er]
theorem upto_tot {ks ks' : Kd} (h : ∀ x, upto ks x = upto ks' x) : tot ks = tot ks' := by
  have ex : ∀ (ks : Kd), ∃ b, ∀ p ∈ ks, p.1 ≤ b := by
    intro ks
    induction ks with
    | nil => exact ⟨0, fun _ h => by cases h⟩
    | cons q r ih =>
      obtain ⟨b, hb⟩ := ih
      refine ⟨max b q.1, fun p hp => ?_⟩
      rcases List.mem_cons.mp hp with rfl | hp
      · omega
      · have := hb p hp
        omega
  obtain ⟨b, hb⟩ := ex ks
  obtain ⟨b', hb'⟩ := ex ks'
  have e1 := upto_all (x := max b b') fun p hp => by have := hb p hp; omega
  have e2 := upto_all (x := max b b') fun p hp => by have := hb' p hp; omega
  rw [← e1, ← e2, h]
/-- the last indices of the kinds -/
def ends (ks : Kd) : List Int := (strF 0 ks).map (·.2)
/-- whether a row lies under another one, as the program tells it -/
def under (ks ks' : Kd) : Bool := decide (tot ks = tot ks') && (ends ks ++ ends ks').all fun i => decide (dg ks i ≤ dg ks' i)
theorem strF_mem : ∀ {ks : Kd} {b : Int}, Pos ks → ∀ p ∈ strF b ks, b ≤ p.1 ∧ p.1 ≤ p.2 ∧ p.2 < b + tot ks
  | [], _, _, _, h => by cases h
  | (d, c) :: r, b, hp, p, h => by
    have hc : 1 ≤ c := hp.head
    have t0 := tot_nonneg hp.tail
    show b ≤ p.1 ∧ p.1 ≤ p.2 ∧ p.2 < b + (c + tot r)
    rcases List.mem_cons.mp h with rfl | h
    · show b ≤ b ∧ b ≤ b + c - 1 ∧ b + c - 1 < b + (c + tot r)
      omega
    · obtain ⟨h1, h2, h3⟩ := strF_mem hp.tail p h
      omega
theorem ends_mem {ks : Kd} (hp : Pos ks) {i : Int} (h : i ∈ ends ks) : 0 ≤ i ∧ i < tot ks := by
  unfold ends at h
  rw [List.mem_map] at h
  obtain ⟨p, hm, rfl⟩ := h
  have := strF_mem hp p hm
  omega
/-- where the count at x is not 0, the last index below it is the end of a kind -/
theorem strF_end : ∀ {ks : Kd} {b x : Int}, Pos ks → Asc ks → 0 < upto ks x → b + upto ks x - 1 ∈ (strF b ks).map (·.2)
  | [], _, _, _, _, h => absurd h (by show ¬ (0 : Int) < 0; omega)
  | (d, c) :: r, b, x, hp, ha, h => by
    have hc : 1 ≤ c := hp.head
    have h : 0 < (if d ≤ x then c else 0) + upto r x := h
    show b + ((if d ≤ x then c else 0) + upto r x) - 1 ∈ (b + c - 1) :: (strF (b + c) r).map (·.2)
    by_cases hd : d ≤ x
    · rw [if_pos hd] at h ⊢
      have u0 := upto_nonneg hp.tail x
      by_cases hz : upto r x = 0
      · rw [hz]
        exact List.mem_cons.mpr (.inl (by omega))
      · have := strF_end (b := b + c) hp.tail ha.tail (x := x) (by omega)
        refine List.mem_cons_of_mem _ ?_
        rw [show b + (c + upto r x) - 1 = b + c + upto r x - 1 by omega]
        exact this
    · rw [if_neg hd, upto_zero fun q hq => by have : d < q.1 := ha.head q hq; omega] at h
      omega
theorem under_iff {ks ks' : Kd} (hp : Pos ks) (ha : Asc ks) (hp' : Pos ks') (ha' : Asc ks') : under ks ks' = true ↔ tot ks = tot ks' ∧ ∀ x, upto ks' x ≤ upto ks x := by
  unfold under
  rw [Bool.and_eq_true, decide_eq_true_eq, List.all_eq_true]
  constructor
  · rintro ⟨ht, h⟩
    refine ⟨ht, fun x => ?_⟩
    by_cases hz : 0 < upto ks' x
    · have hm : upto ks' x - 1 ∈ ends ks' := by
        have := strF_end (b := 0) hp' ha' hz
        rw [show (0 : Int) + upto ks' x - 1 = upto ks' x - 1 by omega] at this
        exact this
      have hb := ends_mem hp' hm
      have q := of_decide_eq_true (h _ (List.mem_append_right _ hm))
      have q2 := (dg_le (x := x) hp' ha' hb.1 hb.2).mpr (by omega)
      have q3 := (dg_le (x := x) hp ha hb.1 (by omega)).mp (by omega)
      omega
    · have := upto_nonneg hp x
      omega
  · rintro ⟨ht, h⟩
    refine ⟨ht, fun i hi => decide_eq_true ?_⟩
    have hb : 0 ≤ i ∧ i < tot ks := by
      rcases List.mem_append.mp hi with hi | hi
      · exact ends_mem hp hi
      · rw [ht]
        exact ends_mem hp' hi
    have q := (dg_le (x := dg ks' i) hp' ha' hb.1 (by omega)).mp (Int.le_refl _)
    exact (dg_le hp ha hb.1 hb.2).mpr (Int.lt_of_lt_of_le q (h _))
theorem under_refl {ks : Kd} (hp : Pos ks) (ha : Asc ks) : under ks ks = true := (under_iff hp ha hp ha).mpr ⟨rfl, fun _ => Int.le_refl _⟩
/-- under each other: the same -/
theorem under_antisymm {ks ks' : Kd} (hp : Pos ks) (ha : Asc ks) (hp' : Pos ks') (ha' : Asc ks') : (under ks ks' && under ks' ks) = decide (ks = ks') := by
  rw [Bool.eq_iff_iff, Bool.and_eq_true, under_iff hp ha hp' ha', under_iff hp' ha' hp ha, decide_eq_true_eq]
  constructor
  · rintro ⟨⟨_, h1⟩, _, h2⟩
    exact upto_inj hp ha hp' ha' fun x => Int.le_antisymm (h2 x) (h1 x)
  · rintro rfl
    exact ⟨⟨rfl, fun _ => Int.le_refl _⟩, rfl, fun _ => Int.le_refl _⟩
/-- what a row's kinds must be -/
structure Good (ks : Kd) : Prop where
  ne : ks ≠ []
  pos : Pos ks
  asc : Asc ks
  low : ∀ p ∈ ks, 0 ≤ p.1
  high : ∀ p ∈ ks, p.1 < tot ks
  most : tot ks ≤ 1000000000000000000000000000000000000
/-! ### raised -/
/-- the pairs of a raised row -/
def rsF (b i d : Int) : Kd → Kd
  | [] => []
  | (o, c) :: r => (o, min c (max 0 (i - b))) :: (max o d, c - min c (max 0 (i - b))) :: rsF (b + c) i d r
theorem rsF_upto : ∀ {ks : Kd} {b i d : Int} (x : Int), Pos ks → Asc ks → b ≤ i → upto (rsF b i d ks) x = if d ≤ x then upto ks x else min (i - b) (upto ks x)
  | [], b, i, d, x, _, _, hb => by
    show (0 : Int) = if d ≤ x then 0 else min (i - b) 0
    split <;> omega
  | (o, c) :: r, b, i, d, x, hp, ha, hb => by
    have hc : 1 ≤ c := hp.head
    have u0 := upto_nonneg hp.tail x
    have hz : x < o → upto r x = 0 := fun h => upto_zero fun q hq => by
      have : o < q.1 := ha.head q hq
      omega
    show (if o ≤ x then min c (max 0 (i - b)) else 0) + ((if max o d ≤ x then c - min c (max 0 (i - b)) else 0) + upto (rsF (b + c) i d r) x) = if d ≤ x then (if o ≤ x then c else 0) + upto r x else min (i - b) ((if o ≤ x then c else 0) + upto r x)
    have ih : b + c ≤ i → upto (rsF (b + c) i d r) x = if d ≤ x then upto r x else min (i - (b + c)) (upto r x) := fun h => rsF_upto x hp.tail ha.tail h
    have ih2 : i < b + c → upto (rsF (b + c) i d r) x = if d ≤ x then upto r x else 0 := by
      intro h
      have key : ∀ (ks : Kd) (b : Int), Pos ks → i < b → upto (rsF b i d ks) x = if d ≤ x then upto ks x else 0 := by
        intro ks
        induction ks with
        | nil => intro b _ _; show (0 : Int) = if d ≤ x then 0 else 0; split <;> rfl
        | cons p t iht =>
          obtain ⟨o', c'⟩ := p
          intro b hp hb
          have hc' : 1 ≤ c' := hp.head
          have e := iht (b + c') hp.tail (by omega)
          show (if o' ≤ x then min c' (max 0 (i - b)) else 0) + ((if max o' d ≤ x then c' - min c' (max 0 (i - b)) else 0) + upto (rsF (b + c') i d t) x) = if d ≤ x then (if o' ≤ x then c' else 0) + upto t x else 0
          rw [e]
          by_cases h1 : d ≤ x
          · simp only [h1, if_true]
            by_cases h2 : o' ≤ x
            · rw [if_pos h2, if_pos (by omega), if_pos h2]
              omega
            · rw [if_neg h2, if_neg (by omega), if_neg h2]
              omega
          · simp only [h1, if_false]
            rw [if_neg (by omega : ¬ max o' d ≤ x)]
            by_cases h2 : o' ≤ x
            · rw [if_pos h2]
              omega
            · rw [if_neg h2]
              omega
      exact key r (b + c) hp.tail h
    by_cases hi : b + c ≤ i
    · rw [ih hi]
      by_cases h1 : d ≤ x
      · simp only [h1, if_true]
        by_cases h2 : o ≤ x
        · rw [if_pos h2, if_pos (by omega), if_pos h2]
          omega
        · rw [if_neg h2, if_neg (by omega), if_neg h2]
          omega
      · simp only [h1, if_false]
        rw [if_neg (by omega : ¬ max o d ≤ x)]
        by_cases h2 : o ≤ x
        · rw [if_pos h2, if_pos h2]
          omega
        · rw [if_neg h2, if_neg h2, hz (by omega)]
          omega
    · rw [ih2 (by omega)]
      by_cases h1 : d ≤ x
      · simp only [h1, if_true]
        by_cases h2 : o ≤ x
        · rw [if_pos h2, if_pos (by omega), if_pos h2]
          omega
        · rw [if_neg h2, if_neg (by omega), if_neg h2]
          omega
      · simp only [h1, if_false]
        rw [if_neg (by omega : ¬ max o d ≤ x)]
        by_cases h2 : o ≤ x
        · rw [if_pos h2, if_pos h2]
          omega
        · rw [if_neg h2, if_neg h2, hz (by omega)]
          omega
/-! ### gathered -/
/-- pairs with a count above 0 count -/
def posU : Kd → Int → Int
  | [], _ => 0
  | (d, c) :: r, x => (if d ≤ x ∧ 0 < c then c else 0) + posU r x
theorem posU_of : ∀ {ps : Kd} {x : Int}, (∀ p ∈ ps, 0 ≤ p.2) → posU ps x = upto ps x
  | [], _, _ => rfl
  | (d, c) :: r, x, h => by
    have hc : 0 ≤ c := h (d, c) (List.mem_cons_self ..)
    show (if d ≤ x ∧ 0 < c then c else 0) + posU r x = (if d ≤ x then c else 0) + upto r x
    rw [posU_of fun p hp => h p (List.mem_cons_of_mem _ hp)]
    by_cases h1 : d ≤ x
    · rw [if_pos h1]
      by_cases h2 : 0 < c
      · rw [if_pos ⟨h1, h2⟩]
      · rw [if_neg fun q => h2 q.2]
        omega
    · rw [if_neg h1, if_neg fun q => h1 q.1]
/-- the dict, after one more pair -/
def put (al : Kd) (d c : Int) : Kd := if al.any (fun p => decide (p.1 = d)) then al.map (fun p => if p.1 = d then (p.1, p.2 + c) else p) else al ++ [(d, c)]
def gathF (al : Kd) : Kd → Kd
  | [] => al
  | (d, c) :: r => if 0 < c then gathF (put al d c) r else gathF al r
theorem upto_app : ∀ (a b : Kd) (x : Int), upto (a ++ b) x = upto a x + upto b x
  | [], b, x => by show upto b x = 0 + upto b x; omega
  | (d, c) :: r, b, x => by
    show (if d ≤ x then c else 0) + upto (r ++ b) x = (if d ≤ x then c else 0) + upto r x + upto b x
    rw [upto_app r b x]
    omega
theorem put_upto {al : Kd} {d c x : Int} (nd : (al.map (·.1)).Nodup) : upto (put al d c) x = upto al x + if d ≤ x then c else 0 := by
  unfold put
  split
  · rename_i h
    induction al with
    | nil => simp at h
    | cons p r ih =>
      obtain ⟨o, m⟩ := p
      rw [List.map_cons, List.nodup_cons] at nd
      show upto ((if o = d then (o, m + c) else (o, m)) :: r.map _) x = (if o ≤ x then m else 0) + upto r x + if d ≤ x then c else 0
      by_cases ho : o = d
      · subst ho
        rw [if_pos rfl]
        have hr : r.map (fun p => if p.1 = o then (p.1, p.2 + c) else p) = r := by
          refine (List.map_congr_left fun q hq => ?_).trans (List.map_id r)
          rw [if_neg fun e => nd.1 (List.mem_map.mpr ⟨q, hq, e⟩)]
          rfl
        rw [hr]
        show (if o ≤ x then m + c else 0) + upto r x = _
        split <;> omega
      · rw [if_neg ho]
        have hr : (r.any fun p => decide (p.1 = d)) = true := by
          rw [List.any_cons, Bool.or_eq_true] at h
          rcases h with h | h
          · exact absurd (of_decide_eq_true h) ho
          · exact h
        have := ih nd.2 hr
        show (if o ≤ x then m else 0) + upto (r.map _) x = _
        rw [this]
        omega
  · rw [upto_app]
    show upto al x + ((if d ≤ x then c else 0) + 0) = _
    omega
theorem put_keys {al : Kd} {d c : Int} : (put al d c).map (·.1) = if al.any (fun p => decide (p.1 = d)) then al.map (·.1) else al.map (·.1) ++ [d] := by
  unfold put
  split
  · rw [List.map_map]
    refine List.map_congr_left fun p _ => ?_
    show (if p.1 = d then (p.1, p.2 + c) else p).1 = p.1
    split <;> rfl
  · rw [List.map_append]
    rfl
theorem put_nodup {al : Kd} {d c : Int} (nd : (al.map (·.1)).Nodup) : ((put al d c).map (·.1)).Nodup := by
  rw [put_keys]
  split
  · exact nd
  · rename_i h
    rw [List.nodup_append]
    refine ⟨nd, by simp, fun a ha b hb => ?_⟩
    rw [List.mem_singleton] at hb
    subst hb
    rintro rfl
    rw [List.mem_map] at ha
    obtain ⟨p, hp, e⟩ := ha
    exact h (List.any_eq_true.mpr ⟨p, hp, decide_eq_true e⟩)
theorem put_pos {al : Kd} {d c : Int} (hp : Pos al) (hc : 0 < c) : Pos (put al d c) := by
  unfold put
  split
  · intro p hm
    rw [List.mem_map] at hm
    obtain ⟨q, hq, rfl⟩ := hm
    have := hp q hq
    split
    · show 1 ≤ q.2 + c
      omega
    · exact this
  · intro p hm
    rcases List.mem_append.mp hm with hm | hm
    · exact hp p hm
    · rw [List.mem_singleton] at hm
      subst hm
      show 1 ≤ c
      omega
theorem gathF_all : ∀ {ps al : Kd}, (al.map (·.1)).Nodup → Pos al → ((gathF al ps).map (·.1)).Nodup ∧ Pos (gathF al ps) ∧ (∀ x, upto (gathF al ps) x = upto al x + posU ps x) ∧ (gathF al ps).length ≤ al.length + ps.length
  | [], al, nd, hp => ⟨nd, hp, fun x => by show upto al x = upto al x + 0; omega, Nat.le_refl _⟩
  | (d, c) :: r, al, nd, hp => by
    unfold gathF
    by_cases hc : 0 < c
    · rw [if_pos hc]
      obtain ⟨h1, h2, h3, h4⟩ := gathF_all (ps := r) (put_nodup (d := d) (c := c) nd) (put_pos hp hc)
      refine ⟨h1, h2, fun x => ?_, ?_⟩
      · rw [h3, put_upto nd]
        show _ = upto al x + ((if d ≤ x ∧ 0 < c then c else 0) + posU r x)
        by_cases h : d ≤ x
        · rw [if_pos h, if_pos ⟨h, hc⟩]
          omega
        · rw [if_neg h, if_neg fun q => h q.1]
          omega
      · have hl : (put al d c).length ≤ al.length + 1 := by
          unfold put
          split
          · rw [List.length_map]
            omega
          · rw [List.length_append]
            exact Nat.le_refl _
        rw [List.length_cons]
        omega
    · rw [if_neg hc]
      obtain ⟨h1, h2, h3, h4⟩ := gathF_all (ps := r) nd hp
      refine ⟨h1, h2, fun x => ?_, by rw [List.length_cons]; omega⟩
      rw [h3]
      show _ = upto al x + ((if d ≤ x ∧ 0 < c then c else 0) + posU r x)
      rw [if_neg fun q => hc q.2]
      omega
theorem upto_perm {a b : Kd} (h : a.Perm b) (x : Int) : upto a x = upto b x := by
  induction h with
  | nil => rfl
  | cons p _ ih =>
    obtain ⟨d, c⟩ := p
    show (if d ≤ x then c else 0) + _ = (if d ≤ x then c else 0) + _
    rw [ih]
  | swap p q l =>
    obtain ⟨d, c⟩ := p
    obtain ⟨d', c'⟩ := q
    show (if d' ≤ x then c' else 0) + ((if d ≤ x then c else 0) + upto l x) = (if d ≤ x then c else 0) + ((if d' ≤ x then c' else 0) + upto l x)
    omega
  | trans _ _ h1 h2 => rw [h1, h2]
open Sg in
theorem ins_perm (i : Int) : ∀ l : List Int, (insI i l).Perm (i :: l)
  | [] => List.Perm.refl _
  | j :: r => by
    unfold insI
    split
    · exact List.Perm.refl _
    · exact ((ins_perm i r).cons j).trans (List.Perm.swap i j r)
open Sg in
theorem srt_perm : ∀ l : List Int, (sortI l).Perm l
  | [] => List.Perm.refl _
  | i :: r => (ins_perm i (sortI r)).trans ((srt_perm r).cons i)
open Sg in
theorem ins_sorted (i : Int) : ∀ {l : List Int}, l.Pairwise (· ≤ ·) → (insI i l).Pairwise (· ≤ ·)
  | [], _ => List.pairwise_singleton ..
  | j :: r, h => by
    unfold insI
    rw [List.pairwise_cons] at h
    split
    · rename_i hij
      refine List.pairwise_cons.mpr ⟨fun k hk => ?_, List.pairwise_cons.mpr h⟩
      rcases List.mem_cons.mp hk with rfl | hk
      · omega
      · have := h.1 k hk
        omega
    · rename_i hij
      refine List.pairwise_cons.mpr ⟨fun k hk => ?_, ins_sorted i h.2⟩
      rcases List.mem_cons.mp ((ins_perm i r).mem_iff.mp hk) with rfl | hk
      · omega
      · exact h.1 k hk
open Sg in
theorem srt_sorted : ∀ l : List Int, (sortI l).Pairwise (· ≤ ·)
  | [] => List.Pairwise.nil
  | i :: r => ins_sorted i (srt_sorted r)
/-- the value of a key -/
def val (al : Kd) (k : Int) : Int := ((al.find? fun p => decide (p.1 = k)).map (·.2)).getD 0
open Sg in
def gath (ps : Kd) : Kd := (sortI ((gathF [] ps).map (·.1))).map fun k => (k, val (gathF [] ps) k)
theorem val_mem : ∀ {al : Kd}, (al.map (·.1)).Nodup → ∀ p ∈ al, val al p.1 = p.2
  | [], _, _, h => by cases h
  | q :: r, nd, p, h => by
    rw [List.map_cons, List.nodup_cons] at nd
    unfold val
    rw [List.find?_cons]
    by_cases hq : q.1 = p.1
    · rw [decide_eq_true hq]
      show q.2 = p.2
      rcases List.mem_cons.mp h with rfl | h
      · rfl
      · exact absurd (List.mem_map.mpr ⟨p, h, hq.symm⟩) nd.1
    · rw [decide_eq_false hq]
      rcases List.mem_cons.mp h with rfl | h
      · exact absurd rfl hq
      · exact val_mem nd.2 p h
theorem gath_perm (ps : Kd) : (gath ps).Perm (gathF [] ps) := by
  obtain ⟨nd, _⟩ := gathF_all (ps := ps) (al := []) List.nodup_nil (fun _ h => by cases h)
  unfold gath
  have h1 := (srt_perm ((gathF [] ps).map (·.1))).map fun k => (k, val (gathF [] ps) k)
  refine h1.trans ?_
  rw [List.map_map]
  have e : (gathF [] ps).map ((fun k => (k, val (gathF [] ps) k)) ∘ fun x => x.1) = gathF [] ps := by
    refine (List.map_congr_left fun p hp => ?_).trans (List.map_id _)
    show (p.1, val (gathF [] ps) p.1) = p
    rw [val_mem nd p hp]
  rw [e]
theorem gath_upto {ps : Kd} (x : Int) : upto (gath ps) x = posU ps x := by
  rw [upto_perm (gath_perm ps)]
  have := (gathF_all (ps := ps) (al := []) List.nodup_nil (fun _ h => by cases h)).2.2.1 x
  rw [this]
  show (0 : Int) + _ = _
  omega
theorem gath_pos (ps : Kd) : Pos (gath ps) := fun p hp => (gathF_all (ps := ps) (al := []) List.nodup_nil (fun _ h => by cases h)).2.1 p ((gath_perm ps).mem_iff.mp hp)
theorem gath_asc (ps : Kd) : Asc (gath ps) := by
  obtain ⟨nd, _⟩ := gathF_all (ps := ps) (al := []) List.nodup_nil (fun _ h => by cases h)
  unfold gath Asc
  rw [List.pairwise_map]
  have hs := srt_sorted ((gathF [] ps).map (·.1))
  have hn : (Sg.sortI ((gathF [] ps).map (·.1))).Nodup := (srt_perm _).nodup_iff.mpr nd
  refine (List.Pairwise.and hs hn).imp fun {a b} h => ?_
  show a < b
  have := h.1
  have := h.2
  omega
end Rw
/-! Re: values that are compared; sums, ranges, lists of ints; kinds as data. -/
namespace Sg
open PySem L2
/-- values of a kind: == tells whether they are the same -/
def EqOk {α : Type} [DecidableEq α] (e : α → D) (n : Nat) : Prop :=
  ∃ p : α → PyData, (∀ a, (e a).py = some (p a) ∧ (p a).canLay0 = true ∧ (p a).depth ≤ n) ∧ ∀ a b, PyData.eqv (p a) (p b) = decide (a = b)
theorem EqOk.int : EqOk D.int 0 := ⟨PyData.int, fun a => ⟨rfl, by simp [PyData.canLay0], by simp [PyData.depth]⟩, fun a b => by
  show (a == b) = _
  by_cases h : a = b <;> simp [h]⟩
theorem EqOk.bl : EqOk D.bl 0 := ⟨PyData.bool, fun a => ⟨rfl, by simp [PyData.canLay0], by simp [PyData.depth]⟩, fun a b => by
  show (a == b) = _
  by_cases h : a = b <;> simp [h]⟩
theorem py_list {α : Type} {e : α → D} {p : α → PyData} (h : ∀ a, (e a).py = some (p a)) : ∀ xs : List α, D.pyL (xs.map e) = some (xs.map p)
  | [] => rfl
  | x :: r => by
    simp only [List.map_cons, D.pyL]
    rw [h x, py_list h r]
theorem lay_list {α : Type} {p : α → PyData} (h : ∀ a, (p a).canLay0 = true) : ∀ xs : List α, PyData.canLayAll0 (xs.map p) = true
  | [] => rfl
  | x :: r => by
    simp only [List.map_cons, PyData.canLayAll0]
    rw [h x, lay_list h r]
    rfl
theorem dep_list {α : Type} {p : α → PyData} {n : Nat} (h : ∀ a, (p a).depth ≤ n) : ∀ xs : List α, PyData.depthAll (xs.map p) ≤ n
  | [] => by simp [PyData.depthAll]
  | x :: r => by
    simp only [List.map_cons, PyData.depthAll]
    have := h x
    have := dep_list h r
    omega
theorem eqv_list {α : Type} [DecidableEq α] {p : α → PyData} (h : ∀ a b, PyData.eqv (p a) (p b) = decide (a = b)) : ∀ xs ys : List α, PyData.eqvAll (xs.map p) (ys.map p) = decide (xs = ys)
  | [], [] => by simp [PyData.eqvAll]
  | [], _ :: _ => by simp [PyData.eqvAll]
  | _ :: _, [] => by simp [PyData.eqvAll]
  | x :: r, y :: t => by
    simp only [List.map_cons, PyData.eqvAll]
    rw [h, eqv_list h r t]
    by_cases h1 : x = y <;> by_cases h2 : r = t <;> simp [h1, h2]
theorem EqOk.lst {α : Type} [DecidableEq α] {e : α → D} {n : Nat} (h : EqOk e n) : EqOk (fun xs : List α => D.lst (xs.map e)) (n + 1) := by
  obtain ⟨p, h1, h2⟩ := h
  refine ⟨fun xs => .list (xs.map p), fun xs => ⟨?_, ?_, ?_⟩, fun xs ys => ?_⟩
  · simp only [D.py]
    rw [py_list fun a => (h1 a).1]
    rfl
  · simp only [PyData.canLay0]
    exact lay_list (fun a => (h1 a).2.1) xs
  · simp only [PyData.depth]
    have := dep_list (fun a => (h1 a).2.2) xs
    omega
  · show PyData.eqv (.list _) (.list _) = _
    simp only [PyData.eqv]
    exact eqv_list h2 xs ys
theorem EqOk.tup {α : Type} [DecidableEq α] {e : α → D} {n : Nat} (h : EqOk e n) : EqOk (fun xs : List α => D.tup (xs.map e)) (n + 1) := by
  obtain ⟨p, h1, h2⟩ := h
  refine ⟨fun xs => .tuple (xs.map p), fun xs => ⟨?_, ?_, ?_⟩, fun xs ys => ?_⟩
  · simp only [D.py]
    rw [py_list fun a => (h1 a).1]
    rfl
  · simp only [PyData.canLay0]
    exact lay_list (fun a => (h1 a).2.1) xs
  · simp only [PyData.depth]
    have := dep_list (fun a => (h1 a).2.2) xs
    omega
  · show PyData.eqv (.tuple _) (.tuple _) = _
    simp only [PyData.eqv]
    exact eqv_list h2 xs ys
theorem EqOk.pair {α β : Type} [DecidableEq α] [DecidableEq β] {e : α → D} {f : β → D} {n m : Nat} (h : EqOk e n) (h' : EqOk f m) : EqOk (fun p : α × β => D.tup [e p.1, f p.2]) (max n m + 1) := by
  obtain ⟨p, h1, h2⟩ := h
  obtain ⟨q, h3, h4⟩ := h'
  refine ⟨fun a => .tuple [p a.1, q a.2], fun a => ⟨?_, ?_, ?_⟩, fun a b => ?_⟩
  · simp only [D.py, D.pyL]
    rw [(h1 a.1).1, (h3 a.2).1]
    rfl
  · simp only [PyData.canLay0, PyData.canLayAll0]
    rw [(h1 a.1).2.1, (h3 a.2).2.1]
    rfl
  · simp only [PyData.depth, PyData.depthAll]
    have := (h1 a.1).2.2
    have := (h3 a.2).2.2
    omega
  · show PyData.eqv (.tuple _) (.tuple _) = _
    simp only [PyData.eqv, PyData.eqvAll]
    rw [h2, h4]
    obtain ⟨a1, a2⟩ := a
    obtain ⟨b1, b2⟩ := b
    by_cases q1 : a1 = b1 <;> by_cases q2 : a2 = b2 <;> simp [q1, q2]
theorem EqOk.eqD {α : Type} [DecidableEq α] {e : α → D} {n : Nat} (h : EqOk e n) (hn : n ≤ 64) (a b : α) : eqD (e a) (e b) = some (decide (a = b)) := by
  obtain ⟨p, h1, h2⟩ := h
  have sh : ∀ a, SeqAt.shaped (p a) = true := fun a => by
    unfold SeqAt.shaped
    rw [(h1 a).2.1, decide_eq_true (Nat.le_trans (h1 a).2.2 hn)]
    rfl
  unfold Sg.eqD
  rw [(h1 a).1, (h1 b).1]
  show (if (SeqAt.shaped (p a) && SeqAt.shaped (p b)) = true then some (PyData.eqv (p a) (p b)) else none) = _
  rw [sh a, sh b, h2]
  rfl
theorem e_int (i j : Int) : eqD (.int i) (.int j) = some (decide (i = j)) := EqOk.int.eqD (by decide) i j
theorem e_bl (i j : Bool) : eqD (.bl i) (.bl j) = some (decide (i = j)) := EqOk.bl.eqD (by decide) i j
theorem e_bls (xs ys : List Bool) : eqD (.lst (xs.map D.bl)) (.lst (ys.map D.bl)) = some (decide (xs = ys)) := EqOk.bl.lst.eqD (by decide) xs ys
theorem e_ints (xs ys : List Int) : eqD (.lst (xs.map D.int)) (.lst (ys.map D.int)) = some (decide (xs = ys)) := EqOk.int.lst.eqD (by decide) xs ys
theorem e_intsT (xs ys : List Int) : eqD (.tup (xs.map D.int)) (.tup (ys.map D.int)) = some (decide (xs = ys)) := EqOk.int.tup.eqD (by decide) xs ys
/-- a pair of ints -/
def pD (p : Int × Int) : D := .tup [.int p.1, .int p.2]
/-- kinds -/
def kT (ks : List (Int × Int)) : D := .tup (ks.map pD)
theorem e_kT (xs ys : List (Int × Int)) : eqD (kT xs) (kT ys) = some (decide (xs = ys)) := (EqOk.int.pair EqOk.int).tup.eqD (by decide) xs ys
theorem bls_map {α : Type} (f : α → Bool) : ∀ cs : List α, bls? (cs.map fun c => D.bl (f c)) = some (cs.map f)
  | [] => rfl
  | c :: r => by
    show (bls? (r.map fun c => D.bl (f c))).map (f c :: ·) = _
    rw [bls_map f r]
    rfl
theorem ints_map {α : Type} (f : α → Int) : ∀ cs : List α, ints? (cs.map fun c => D.int (f c)) = some (cs.map f)
  | [] => rfl
  | c :: r => by
    show (ints? (r.map fun c => D.int (f c))).map (f c :: ·) = _
    rw [ints_map f r]
    rfl
theorem ints_ints (cs : List Int) : ints? (cs.map D.int) = some cs := by
  have := ints_map (fun i : Int => i) cs
  rw [List.map_id'] at this
  exact this
theorem nrL_map {α : Type} {f : α → D} (h : ∀ a, (f a).nr = true) : ∀ xs : List α, D.nrL (xs.map f) = true
  | [] => rfl
  | x :: r => by
    show (D.nr (f x) && D.nrL (r.map f)) = true
    rw [h x, nrL_map h r]
    rfl
theorem kT_nr (ks : List (Int × Int)) : (kT ks).nr = true := by
  show D.nrL (ks.map pD) = true
  exact nrL_map (fun a => rfl) ks
theorem nrL_append : ∀ (a b : List D), D.nrL (a ++ b) = (D.nrL a && D.nrL b)
  | [], b => rfl
  | x :: r, b => by
    show (D.nr x && D.nrL (r ++ b)) = (D.nr x && D.nrL r && D.nrL b)
    rw [nrL_append r b, Bool.and_assoc]
theorem nrL_mem {x : D} : ∀ {xs : List D}, D.nrL xs = true → x ∈ xs → x.nr = true
  | [], _, h => by cases h
  | d :: r, c, h => by
    have c' : (D.nr d && D.nrL r) = true := c
    rw [Bool.and_eq_true] at c'
    rcases List.mem_cons.mp h with rfl | h
    · exact c'.1
    · exact nrL_mem c'.2 h
theorem rngD_eq : ∀ (n : Nat) (i : Int), rngD i n = (List.range n).map fun k => D.int (i + (k : Nat))
  | 0, _ => rfl
  | n + 1, i => by
    rw [List.range_succ_eq_map, List.map_cons, List.map_map]
    show D.int i :: rngD (i + 1) n = _
    rw [rngD_eq n (i + 1)]
    congr 1
    · simp
    · refine List.map_congr_left fun k _ => ?_
      show D.int (i + 1 + (k : Int)) = D.int (i + ((k + 1 : Nat) : Int))
      congr 1
      omega
theorem rng_ok {j : Int} (h0 : -(2 ^ 62) ≤ j) (h1 : j < 2 ^ 62) : rngOk j = true := decide_eq_true ⟨h0, h1⟩
theorem sz {n : Nat} (h : n ≤ 1000000) : n ≤ sizeLine := Nat.le_trans h (by decide)
theorem atI_ok {α : Type} {xs : List α} {i : Int} (h0 : 0 ≤ i) (h : i < xs.length) : atI xs i = some (xs[i.toNat]'(by omega)) := by
  unfold atI ixN
  rw [if_pos h0, if_pos h]
  show xs[i.toNat]? = _
  rw [List.getElem?_eq_getElem]
theorem atI_last {α : Type} {xs : List α} (h : xs ≠ []) : atI xs (-1) = some (xs.getLast h) := by
  have hp : 0 < xs.length := List.length_pos_iff.mpr h
  unfold atI ixN
  rw [if_neg (by omega), if_pos (by omega)]
  show xs[((xs.length : Int) + -1).toNat]? = _
  rw [show ((xs.length : Int) + -1).toNat = xs.length - 1 by omega, List.getLast_eq_getElem, List.getElem?_eq_getElem]
theorem atI_map {α β : Type} {f : α → β} {xs : List α} {i : Int} : atI (xs.map f) i = (atI xs i).map f := by
  unfold atI
  rw [List.length_map]
  cases ixN xs.length i with
  | none => rfl
  | some k => exact List.getElem?_map
theorem take_app {α : Type} (a b : List α) : (a ++ b).take a.length = a := List.take_left
/-! the die -/
def IsDie (μ : Store) (k : Nat) : Prop := ∃ a b c : Int, μ[k]? = some (.shr [.int a, .int b, .int c])
/-- only the die at k was thrown -/
def Cast (k : Nat) (μ μ' : Store) : Prop := ∃ a b c : Int, μ' = μ.set k (.shr [.int a, .int b, .int c])
theorem IsDie.lt {μ : Store} {k : Nat} (h : IsDie μ k) : k < μ.length := by
  obtain ⟨_, _, _, e⟩ := h
  exact (List.getElem?_eq_some_iff.mp e).1
theorem Cast.die {k : Nat} {μ μ' : Store} (h : Cast k μ μ') (hd : IsDie μ k) : IsDie μ' k := by
  obtain ⟨a, b, c, rfl⟩ := h
  exact ⟨a, b, c, List.getElem?_set_self hd.lt⟩
theorem Cast.refl {k : Nat} {μ : Store} (hd : IsDie μ k) : Cast k μ μ := by
  obtain ⟨a, b, c, e⟩ := hd
  refine ⟨a, b, c, ?_⟩
  obtain ⟨hl, e⟩ := List.getElem?_eq_some_iff.mp e
  rw [← e, List.set_getElem_self]
theorem Cast.trans {k : Nat} {μ μ1 μ2 : Store} (h : Cast k μ μ1) (h' : Cast k μ1 μ2) : Cast k μ μ2 := by
  obtain ⟨_, _, _, rfl⟩ := h
  obtain ⟨a, b, c, rfl⟩ := h'
  exact ⟨a, b, c, by rw [List.set_set]⟩
theorem Cast.len {k : Nat} {μ μ1 : Store} (h : Cast k μ μ1) : μ1.length = μ.length := by
  obtain ⟨a, b, c, rfl⟩ := h
  rw [List.length_set]
theorem Cast.take {k : Nat} {μ μ1 : Store} (h : Cast k μ μ1) : μ1.take μ.length = μ1 := by
  rw [← h.len, List.take_length]
theorem IsDie.frz {μ : Store} {k : Nat} (h : IsDie μ k) {Q : D → Store → Prop} {X : Exc → Store → Prop} : wp (frzD (.ref k)) μ Q X = Q (.ref k) μ := by
  obtain ⟨a, b, c, e⟩ := h
  refine w_of ?_
  show (match μ[k]? with | some (.own xs) => _ | some (.frz d) => _ | some (.shr _) => _ | some (.obj _ _) => _ | some (.dct ks xs) => _ | none => none) = _
  rw [e]
/-- what a cast promises -/
def CastOk (t : List D → M D) : Prop := ∀ (k : Nat) (n : Int) (μ : Store) (Q : D → Store → Prop) (X : Exc → Store → Prop), IsDie μ k → 0 < n → n < 1000000000 → (∀ r μ', 0 ≤ r → r < n → Cast k μ μ' → Q (.int r) μ') → wp (t [.ref k, .int n]) μ Q X
/-- what a pick promises -/
def PickOk (t : List D → M D) : Prop := ∀ (k : Nat) (xs : List D) (μ : Store) (Q : D → Store → Prop) (X : Exc → Store → Prop), IsDie μ k → 0 < xs.length → xs.length < 1000000000 → D.nrL xs = true → (∀ x μ', x ∈ xs → Cast k μ μ' → Q x μ') → wp (t [.ref k, .lst xs]) μ Q X
/-- what the making of a die promises -/
def NumOk (t : List D → M D) : Prop := ∀ (ns : List Int) (i : Nat) (μ : Store) (Q : D → Store → Prop) (X : Exc → Store → Prop), i ≤ 100 → (∀ a b c : Int, Q (.ref μ.length) (μ ++ [.shr [.int a, .int b, .int c]])) → wp (t [.rol (ns.map D.int), .int i]) μ Q X
theorem div_ok {n : Int} (h0 : 0 < n) (h1 : n < 2 ^ 64) : divOk n = true := by
  unfold divOk
  refine decide_eq_true ⟨h0, ?_⟩
  have hn : n.natAbs < 2 ^ 64 := by omega
  by_cases hz : n.natAbs = 0
  · rw [hz]
    decide
  · have := (Nat.log2_lt hz).mpr hn
    omega
theorem mul_l {i j : Int} (h0 : -(2 ^ 64) < i) (h1 : i < 2 ^ 64) : mulOk i j = true := decide_eq_true (.inl ⟨h0, h1⟩)
theorem mul_r {i j : Int} (h0 : -(2 ^ 64) < j) (h1 : j < 2 ^ 64) : mulOk i j = true := decide_eq_true (.inr (.inl ⟨h0, h1⟩))
theorem die_sub {μ : Store} {k : Nat} {xs : List D} (h : μ[k]? = some (.shr xs)) : look μ (.ref k) = .lst xs := by
  show (match μ[k]? with | some (.own xs) => D.lst xs | some (.shr xs) => .lst xs | some (.frz d) => d | some (.dct ks xs) => .dic ks xs | _ => .ref k) = _
  rw [h]
theorem die_put {μ : Store} {k : Nat} {xs : List D} {j : Int} {n : Nat} {d : D} (h : μ[k]? = some (.shr xs)) (hn : d.nr = true) (hj : ixN xs.length j = some n) : putC μ (.ref k) (.int j) d = some (μ.set k (.shr (xs.set n d))) := by
  simp only [putC]
  rw [if_pos hn, h]
  show (ixN xs.length j).map _ = _
  rw [hj]
  rfl
end Sg
/-! StrW: texts of numbers. -/
namespace Sg
open PySem L2
theorem strOk_app {a b : Str} (h : PyData.strOk a = true) (h' : PyData.strOk b = true) : PyData.strOk (a ++ b) = true := by
  unfold PyData.strOk at *
  rw [Str.cps_append, Array.all_append, h, h']
  rfl
theorem num_nat {n k : Nat} (h : n < 10 ^ k) (hk : 0 < k) : (Str.ofString (toString (n : Int))).length ≤ k ∧ PyData.strOk (Str.ofString (toString (n : Int))) = true := by
  have e := TL.tl_num n
  have e : (Str.ofString (toString (n : Int))).cps.toList = TL.numL n := e
  constructor
  · have := TL.numL_len hk h
    rw [← e] at this
    exact this
  · unfold PyData.strOk
    rw [← Array.all_toList, e, List.all_eq_true]
    intro c hc
    have := TL.numL_digits n c hc
    exact decide_eq_true (by omega)
theorem num_int {i : Int} (h0 : 0 ≤ i) (h1 : i < 10 ^ 60) : (Str.ofString (toString i)).length ≤ 60 ∧ PyData.strOk (Str.ofString (toString i)) = true ∧ i.natAbs.log2 < 1920 := by
  obtain ⟨n, rfl⟩ : ∃ n : Nat, i = n := ⟨i.toNat, by omega⟩
  have hn : n < 10 ^ 60 := by omega
  obtain ⟨a, b⟩ := num_nat hn (by decide)
  refine ⟨a, b, ?_⟩
  have : (n : Int).natAbs < 2 ^ 1920 := Nat.lt_of_lt_of_le (show (n : Int).natAbs < 10 ^ 60 by omega) (by decide +kernel)
  by_cases hz : (n : Int).natAbs = 0
  · rw [hz]
    decide
  · exact (Nat.log2_lt hz).mpr this
/-- a value whose text is known to be small -/
def Shw (d : D) (s : Str) : Prop := repD d = some (.str s) ∧ s.length ≤ 1000 ∧ PyData.strOk s = true
end Sg
namespace Lw
open PySem L2 Sg
/-- the constants of the text -/
def cs : List D := [.int 1000000000000000000000000000000000000, .int 1000000000000000000000000000000, .int 64]
/-- its classes -/
def cls : List Cl := [⟨["own_kinds", "own_places"], 3, [("degree_at", 10), ("stretches", 6), ("raised", 9), ("joined", 17), ("require_index", 8), ("__getitem__", 11), ("__add__", 15), ("__len__", 12), ("__eq__", 13)], [("kinds", 14), ("places", 18), ("least", 19), ("greatest", 20), ("total", 21), ("degrees", 28)], [("of", 5)]⟩]
/-- its exceptions, its catchers -/
def xcs : List Xc := [⟨none, [0]⟩, ⟨none, [1, 0]⟩, ⟨some "value", [2]⟩, ⟨some "limit", [3]⟩]
def cats : List Cat := []
/-- is_integer -/
def n_is_integer : List Str := ["value"]
def b_is_integer : List S := [
  .ret (.and (.isi (.var 0) (.ty "int")) (.not (.isi (.var 0) (.ty "bool"))))]
def T_is_integer : Tab := ⟨[], cs, cls, ⟨[], cats, xcs⟩⟩
def t_is_integer : List D → M D := fnB T_is_integer 1 1 b_is_integer
theorem T_is_integer_cls : T_is_integer.cls = cls := (rfl)
theorem T_is_integer_cons : T_is_integer.cons = cs := (rfl)
theorem o_is_integer {d0 : D} {μ : Store} {Q : D → Store → Prop} {X : Exc → Store → Prop} : wp (t_is_integer [d0]) μ Q X = ws (execL T_is_integer b_is_integer [some d0] μ) (endQ μ.length Q X) := w_fnB rfl
/-- is_pair -/
def n_is_pair : List Str := ["value"]
def b_is_pair : List S := [
  .ret (.and (.isi (.var 0) (.ty "tuple")) (.cmp .Eq (.blt .len [(.var 0)]) (.int 2)))]
def T_is_pair : Tab := ⟨[t_is_integer], cs, cls, ⟨[t_is_integer], cats, xcs⟩⟩
def t_is_pair : List D → M D := fnB T_is_pair 1 1 b_is_pair
theorem T_is_pair_cls : T_is_pair.cls = cls := (rfl)
theorem T_is_pair_cons : T_is_pair.cons = cs := (rfl)
theorem o_is_pair {d0 : D} {μ : Store} {Q : D → Store → Prop} {X : Exc → Store → Prop} : wp (t_is_pair [d0]) μ Q X = ws (execL T_is_pair b_is_pair [some d0] μ) (endQ μ.length Q X) := w_fnB rfl
/-- are_kinds -/
def n_are_kinds : List Str := ["value", "degrees", "places", "kind", "one", "other", "degree", "count"]
def b_are_kinds : List S := [
  .ife (.or (.not (.val (.isi (.var 0) (.ty "tuple")))) (.or (.cmp .Eq (.var 0) (.tup [])) (.not (.val (.blt .all [(.lc [3] (.name 3) (.val (.var 0)) [] (.call 1 [(.var 3)]))]))))) [.ret (.bl false)] [],
  .ife (.not (.val (.blt .all [(.lc [6, 7] (.tup [(.name 6), (.name 7)]) (.val (.var 0)) [] (.and (.call 0 [(.var 6)]) (.and (.call 0 [(.var 7)]) (.cmp .GtE (.var 7) (.int 1)))))]))) [.ret (.bl false)] [],
  .par 1 2 (.lc [3] (.name 3) (.val (.var 0)) [] (.sub (.var 3) (.int 0))) (.blt .sum [(.lc [3] (.name 3) (.val (.var 0)) [] (.sub (.var 3) (.int 1)))]),
  .ife (.or (.cmp .Lt (.sub (.var 1) (.int 0)) (.int 0)) (.or (.cmp .GtE (.sub (.var 1) (.neg (.int 1))) (.var 2)) (.cmp .Gt (.var 2) (.gcon 0)))) [.ret (.bl false)] [],
  .ret (.blt .all [(.lc [4, 5] (.tup [(.name 4), (.name 5)]) (.zip (.var 1) (.slc (.var 1) (some (.int 1)) none)) [] (.cmp .Lt (.var 4) (.var 5)))])]
def T_are_kinds : Tab := ⟨[t_is_integer, t_is_pair], cs, cls, ⟨[t_is_integer, t_is_pair], cats, xcs⟩⟩
def t_are_kinds : List D → M D := fnB T_are_kinds 8 1 b_are_kinds
theorem T_are_kinds_cls : T_are_kinds.cls = cls := (rfl)
theorem T_are_kinds_cons : T_are_kinds.cons = cs := (rfl)
theorem c_are_kinds__is_integer : callT T_are_kinds 0 = t_is_integer := (rfl)
theorem c_are_kinds__is_pair : callT T_are_kinds 1 = t_is_pair := (rfl)
theorem o_are_kinds {d0 : D} {μ : Store} {Q : D → Store → Prop} {X : Exc → Store → Prop} : wp (t_are_kinds [d0]) μ Q X = ws (execL T_are_kinds b_are_kinds [some d0, none, none, none, none, none, none, none] μ) (endQ μ.length Q X) := w_fnB rfl
/-- Row.__init__ -/
def n_Row___init__ : List Str := ["self", "kinds", "degree", "count"]
def b_Row___init__ : List S := [
  .ife (.not (.val (.call 2 [(.var 1)]))) [.rai0 1] [],
  .fld 0 "own_kinds" (.var 1),
  .fld 0 "own_places" (.blt .sum [(.lc [2, 3] (.tup [(.name 2), (.name 3)]) (.val (.var 1)) [] (.var 3))])]
def T_Row___init__ : Tab := ⟨[t_is_integer, t_is_pair, t_are_kinds], cs, cls, ⟨[t_is_integer, t_is_pair, t_are_kinds], cats, xcs⟩⟩
def t_Row___init__ : List D → M D := fnS T_Row___init__ 4 1 b_Row___init__
theorem T_Row___init___cls : T_Row___init__.cls = cls := (rfl)
theorem T_Row___init___cons : T_Row___init__.cons = cs := (rfl)
theorem T_Row___init___xcs : T_Row___init__.x.xcs = xcs := (rfl)
theorem c_Row___init____are_kinds : callT T_Row___init__ 2 = t_are_kinds := (rfl)
theorem o_Row___init__ {d0 : D} {ds : List D} {μ : Store} {Q : D → Store → Prop} {X : Exc → Store → Prop} (h : ds.length < sizeLine) : wp (t_Row___init__ (d0 :: ds)) μ Q X = ws (execL T_Row___init__ b_Row___init__ [some d0, some (.tup ds), none, none] μ) (endQ μ.length Q X) := w_fnS ⟨by simp, by simp; omega⟩
/-- gathered -/
def n_gathered : List Str := ["pairs", "found", "degree", "count"]
def b_gathered : List S := [
  .asg (.name 1) .dnw,
  .for (.tup [(.name 2), (.name 3)]) (.val (.var 0)) [.ife (.cmp .Gt (.var 3) (.int 0)) [.put 1 (.var 2) (.bin .Add (.get (.raw 1) (.var 2) (.int 0)) (.var 3))] []],
  .ret (.blt .tuple [(.lc [2] (.name 2) (.val (.blt .sorted [(.blt .list [(.raw 1)])])) [] (.tup [(.var 2), (.sub (.raw 1) (.var 2))]))])]
def T_gathered : Tab := ⟨[t_is_integer, t_is_pair, t_are_kinds, t_Row___init__], cs, cls, ⟨[t_is_integer, t_is_pair, t_are_kinds, t_Row___init__], cats, xcs⟩⟩
def t_gathered : List D → M D := fnB T_gathered 4 1 b_gathered
theorem T_gathered_cls : T_gathered.cls = cls := (rfl)
theorem T_gathered_cons : T_gathered.cons = cs := (rfl)
theorem o_gathered {d0 : D} {μ : Store} {Q : D → Store → Prop} {X : Exc → Store → Prop} : wp (t_gathered [d0]) μ Q X = ws (execL T_gathered b_gathered [some d0, none, none, none] μ) (endQ μ.length Q X) := w_fnB rfl
/-- Row.of -/
def n_Row_of : List Str := ["cls", "kinds"]
def b_Row_of : List S := [
  .ife (.not (.val (.isi (.var 1) (.ty "tuple")))) [.rai0 1] [],
  .ret (.mks 0 (.var 1))]
def T_Row_of : Tab := ⟨[t_is_integer, t_is_pair, t_are_kinds, t_Row___init__, t_gathered], cs, cls, ⟨[t_is_integer, t_is_pair, t_are_kinds, t_Row___init__, t_gathered], cats, xcs⟩⟩
def t_Row_of : List D → M D := fnB T_Row_of 2 2 b_Row_of
theorem T_Row_of_cls : T_Row_of.cls = cls := (rfl)
theorem T_Row_of_cons : T_Row_of.cons = cs := (rfl)
theorem T_Row_of_xcs : T_Row_of.x.xcs = xcs := (rfl)
theorem c_Row_of__Row___init__ : callT T_Row_of 3 = t_Row___init__ := (rfl)
theorem o_Row_of {d0 d1 : D} {μ : Store} {Q : D → Store → Prop} {X : Exc → Store → Prop} : wp (t_Row_of [d0, d1]) μ Q X = ws (execL T_Row_of b_Row_of [some d0, some d1] μ) (endQ μ.length Q X) := w_fnB rfl
/-- Row.stretches -/
def n_Row_stretches : List Str := ["self", "first", "found", "degree", "count"]
def b_Row_stretches : List S := [
  .par 1 2 (.int 0) (.lst []),
  .for (.tup [(.name 3), (.name 4)]) (.val (.att (.var 0) "own_kinds")) [.asg (.name 2) (.lst [(.star (.var 2)), (.tup [(.var 1), (.bin .Sub (.bin .Add (.var 1) (.var 4)) (.int 1))])]), .asg (.name 1) (.bin .Add (.var 1) (.var 4))],
  .ret (.var 2)]
def T_Row_stretches : Tab := ⟨[t_is_integer, t_is_pair, t_are_kinds, t_Row___init__, t_gathered, t_Row_of], cs, cls, ⟨[t_is_integer, t_is_pair, t_are_kinds, t_Row___init__, t_gathered, t_Row_of], cats, xcs⟩⟩
def t_Row_stretches : List D → M D := fnB T_Row_stretches 5 1 b_Row_stretches
theorem T_Row_stretches_cls : T_Row_stretches.cls = cls := (rfl)
theorem T_Row_stretches_cons : T_Row_stretches.cons = cs := (rfl)
theorem o_Row_stretches {d0 : D} {μ : Store} {Q : D → Store → Prop} {X : Exc → Store → Prop} : wp (t_Row_stretches [d0]) μ Q X = ws (execL T_Row_stretches b_Row_stretches [some d0, none, none, none, none] μ) (endQ μ.length Q X) := w_fnB rfl
/-- is_from -/
def n_is_from : List Str := ["value", "first", "last"]
def b_is_from : List S := [
  .ret (.and (.call 0 [(.var 0)]) (.chain .LtE .LtE (.var 1) (.var 0) (.var 2)))]
def T_is_from : Tab := ⟨[t_is_integer, t_is_pair, t_are_kinds, t_Row___init__, t_gathered, t_Row_of, t_Row_stretches], cs, cls, ⟨[t_is_integer, t_is_pair, t_are_kinds, t_Row___init__, t_gathered, t_Row_of, t_Row_stretches], cats, xcs⟩⟩
def t_is_from : List D → M D := fnB T_is_from 3 3 b_is_from
theorem T_is_from_cls : T_is_from.cls = cls := (rfl)
theorem T_is_from_cons : T_is_from.cons = cs := (rfl)
theorem c_is_from__is_integer : callT T_is_from 0 = t_is_integer := (rfl)
theorem o_is_from {d0 d1 d2 : D} {μ : Store} {Q : D → Store → Prop} {X : Exc → Store → Prop} : wp (t_is_from [d0, d1, d2]) μ Q X = ws (execL T_is_from b_is_from [some d0, some d1, some d2] μ) (endQ μ.length Q X) := w_fnB rfl
/-- Row.require_index -/
def n_Row_require_index : List Str := ["self", "index"]
def b_Row_require_index : List S := [
  .ife (.not (.val (.call 7 [(.var 1), (.int 0), (.bin .Sub (.att (.var 0) "own_places") (.int 1))]))) [.rai 2 (.var 1)] []]
def T_Row_require_index : Tab := ⟨[t_is_integer, t_is_pair, t_are_kinds, t_Row___init__, t_gathered, t_Row_of, t_Row_stretches, t_is_from], cs, cls, ⟨[t_is_integer, t_is_pair, t_are_kinds, t_Row___init__, t_gathered, t_Row_of, t_Row_stretches, t_is_from], cats, xcs⟩⟩
def t_Row_require_index : List D → M D := fnB T_Row_require_index 2 2 b_Row_require_index
theorem T_Row_require_index_cls : T_Row_require_index.cls = cls := (rfl)
theorem T_Row_require_index_cons : T_Row_require_index.cons = cs := (rfl)
theorem T_Row_require_index_xcs : T_Row_require_index.x.xcs = xcs := (rfl)
theorem c_Row_require_index__is_from : callT T_Row_require_index 7 = t_is_from := (rfl)
theorem o_Row_require_index {d0 d1 : D} {μ : Store} {Q : D → Store → Prop} {X : Exc → Store → Prop} : wp (t_Row_require_index [d0, d1]) μ Q X = ws (execL T_Row_require_index b_Row_require_index [some d0, some d1] μ) (endQ μ.length Q X) := w_fnB rfl
/-- Row.raised -/
def n_Row_raised : List Str := ["self", "index", "degree", "pairs", "first", "last", "old", "count", "below"]
def b_Row_raised : List S := [
  .expr (.met (.var 0) "require_index" [(.var 1)]),
  .ife (.not (.val (.call 7 [(.var 2), (.int 0), (.bin .Sub (.att (.var 0) "own_places") (.int 1))]))) [.rai 2 (.var 2)] [],
  .asg (.name 3) (.own []),
  .for (.tup [(.tup [(.name 4), (.name 5)]), (.tup [(.name 6), (.name 7)])]) (.zip (.met (.var 0) "stretches" []) (.att (.var 0) "own_kinds")) [.asg (.name 8) (.blt .min2 [(.var 7), (.blt .max2 [(.int 0), (.bin .Sub (.var 1) (.var 4))])]), .ext 3 (.lst [(.tup [(.var 6), (.var 8)]), (.tup [(.blt .max2 [(.var 6), (.var 2)]), (.bin .Sub (.var 7) (.var 8))])])],
  .ret (.cm 0 "of" [(.call 4 [(.var 3)])])]
def T_Row_raised : Tab := ⟨[t_is_integer, t_is_pair, t_are_kinds, t_Row___init__, t_gathered, t_Row_of, t_Row_stretches, t_is_from, t_Row_require_index], cs, cls, ⟨[t_is_integer, t_is_pair, t_are_kinds, t_Row___init__, t_gathered, t_Row_of, t_Row_stretches, t_is_from, t_Row_require_index], cats, xcs⟩⟩
def t_Row_raised : List D → M D := fnB T_Row_raised 9 3 b_Row_raised
theorem T_Row_raised_cls : T_Row_raised.cls = cls := (rfl)
theorem T_Row_raised_cons : T_Row_raised.cons = cs := (rfl)
theorem T_Row_raised_xcs : T_Row_raised.x.xcs = xcs := (rfl)
theorem c_Row_raised__gathered : callT T_Row_raised 4 = t_gathered := (rfl)
theorem c_Row_raised__Row_of : callT T_Row_raised 5 = t_Row_of := (rfl)
theorem c_Row_raised__Row_stretches : callT T_Row_raised 6 = t_Row_stretches := (rfl)
theorem c_Row_raised__is_from : callT T_Row_raised 7 = t_is_from := (rfl)
theorem c_Row_raised__Row_require_index : callT T_Row_raised 8 = t_Row_require_index := (rfl)
theorem o_Row_raised {d0 d1 d2 : D} {μ : Store} {Q : D → Store → Prop} {X : Exc → Store → Prop} : wp (t_Row_raised [d0, d1, d2]) μ Q X = ws (execL T_Row_raised b_Row_raised [some d0, some d1, some d2, none, none, none, none, none, none] μ) (endQ μ.length Q X) := w_fnB rfl
/-- Row.degree_at -/
def n_Row_degree_at : List Str := ["self", "index", "behind", "degree", "count"]
def b_Row_degree_at : List S := [
  .asg (.name 2) (.int 0),
  .for (.tup [(.name 3), (.name 4)]) (.val (.att (.var 0) "own_kinds")) [.asg (.name 2) (.bin .Add (.var 2) (.var 4)), .ife (.cmp .Lt (.var 1) (.var 2)) [.brk] []],
  .ret (.var 3)]
def T_Row_degree_at : Tab := ⟨[t_is_integer, t_is_pair, t_are_kinds, t_Row___init__, t_gathered, t_Row_of, t_Row_stretches, t_is_from, t_Row_require_index, t_Row_raised], cs, cls, ⟨[t_is_integer, t_is_pair, t_are_kinds, t_Row___init__, t_gathered, t_Row_of, t_Row_stretches, t_is_from, t_Row_require_index, t_Row_raised], cats, xcs⟩⟩
def t_Row_degree_at : List D → M D := fnB T_Row_degree_at 5 2 b_Row_degree_at
theorem T_Row_degree_at_cls : T_Row_degree_at.cls = cls := (rfl)
theorem T_Row_degree_at_cons : T_Row_degree_at.cons = cs := (rfl)
theorem o_Row_degree_at {d0 d1 : D} {μ : Store} {Q : D → Store → Prop} {X : Exc → Store → Prop} : wp (t_Row_degree_at [d0, d1]) μ Q X = ws (execL T_Row_degree_at b_Row_degree_at [some d0, some d1, none, none, none] μ) (endQ μ.length Q X) := w_fnB rfl
/-- Row.__getitem__ -/
def n_Row___getitem__ : List Str := ["self", "index"]
def b_Row___getitem__ : List S := [
  .expr (.met (.var 0) "require_index" [(.var 1)]),
  .ret (.met (.var 0) "degree_at" [(.var 1)])]
def T_Row___getitem__ : Tab := ⟨[t_is_integer, t_is_pair, t_are_kinds, t_Row___init__, t_gathered, t_Row_of, t_Row_stretches, t_is_from, t_Row_require_index, t_Row_raised, t_Row_degree_at], cs, cls, ⟨[t_is_integer, t_is_pair, t_are_kinds, t_Row___init__, t_gathered, t_Row_of, t_Row_stretches, t_is_from, t_Row_require_index, t_Row_raised, t_Row_degree_at], cats, xcs⟩⟩
def t_Row___getitem__ : List D → M D := fnB T_Row___getitem__ 2 2 b_Row___getitem__
theorem T_Row___getitem___cls : T_Row___getitem__.cls = cls := (rfl)
theorem T_Row___getitem___cons : T_Row___getitem__.cons = cs := (rfl)
theorem c_Row___getitem____Row_require_index : callT T_Row___getitem__ 8 = t_Row_require_index := (rfl)
theorem c_Row___getitem____Row_degree_at : callT T_Row___getitem__ 10 = t_Row_degree_at := (rfl)
theorem o_Row___getitem__ {d0 d1 : D} {μ : Store} {Q : D → Store → Prop} {X : Exc → Store → Prop} : wp (t_Row___getitem__ [d0, d1]) μ Q X = ws (execL T_Row___getitem__ b_Row___getitem__ [some d0, some d1] μ) (endQ μ.length Q X) := w_fnB rfl
/-- Row.__len__ -/
def n_Row___len__ : List Str := ["self"]
def b_Row___len__ : List S := [
  .ret (.blt .len [(.att (.var 0) "own_kinds")])]
def T_Row___len__ : Tab := ⟨[t_is_integer, t_is_pair, t_are_kinds, t_Row___init__, t_gathered, t_Row_of, t_Row_stretches, t_is_from, t_Row_require_index, t_Row_raised, t_Row_degree_at, t_Row___getitem__], cs, cls, ⟨[t_is_integer, t_is_pair, t_are_kinds, t_Row___init__, t_gathered, t_Row_of, t_Row_stretches, t_is_from, t_Row_require_index, t_Row_raised, t_Row_degree_at, t_Row___getitem__], cats, xcs⟩⟩
def t_Row___len__ : List D → M D := fnB T_Row___len__ 1 1 b_Row___len__
theorem T_Row___len___cls : T_Row___len__.cls = cls := (rfl)
theorem T_Row___len___cons : T_Row___len__.cons = cs := (rfl)
theorem o_Row___len__ {d0 : D} {μ : Store} {Q : D → Store → Prop} {X : Exc → Store → Prop} : wp (t_Row___len__ [d0]) μ Q X = ws (execL T_Row___len__ b_Row___len__ [some d0] μ) (endQ μ.length Q X) := w_fnB rfl
/-- Row.__eq__ -/
def n_Row___eq__ : List Str := ["self", "other"]
def b_Row___eq__ : List S := [
  .ret (.and (.isi (.var 1) (.own 0)) (.cmp .Eq (.att (.var 0) "own_kinds") (.att (.var 1) "own_kinds")))]
def T_Row___eq__ : Tab := ⟨[t_is_integer, t_is_pair, t_are_kinds, t_Row___init__, t_gathered, t_Row_of, t_Row_stretches, t_is_from, t_Row_require_index, t_Row_raised, t_Row_degree_at, t_Row___getitem__, t_Row___len__], cs, cls, ⟨[t_is_integer, t_is_pair, t_are_kinds, t_Row___init__, t_gathered, t_Row_of, t_Row_stretches, t_is_from, t_Row_require_index, t_Row_raised, t_Row_degree_at, t_Row___getitem__, t_Row___len__], cats, xcs⟩⟩
def t_Row___eq__ : List D → M D := fnB T_Row___eq__ 2 2 b_Row___eq__
theorem T_Row___eq___cls : T_Row___eq__.cls = cls := (rfl)
theorem T_Row___eq___cons : T_Row___eq__.cons = cs := (rfl)
theorem o_Row___eq__ {d0 d1 : D} {μ : Store} {Q : D → Store → Prop} {X : Exc → Store → Prop} : wp (t_Row___eq__ [d0, d1]) μ Q X = ws (execL T_Row___eq__ b_Row___eq__ [some d0, some d1] μ) (endQ μ.length Q X) := w_fnB rfl
/-- Row.kinds -/
def n_Row_kinds : List Str := ["self"]
def b_Row_kinds : List S := [
  .ret (.att (.var 0) "own_kinds")]
def T_Row_kinds : Tab := ⟨[t_is_integer, t_is_pair, t_are_kinds, t_Row___init__, t_gathered, t_Row_of, t_Row_stretches, t_is_from, t_Row_require_index, t_Row_raised, t_Row_degree_at, t_Row___getitem__, t_Row___len__, t_Row___eq__], cs, cls, ⟨[t_is_integer, t_is_pair, t_are_kinds, t_Row___init__, t_gathered, t_Row_of, t_Row_stretches, t_is_from, t_Row_require_index, t_Row_raised, t_Row_degree_at, t_Row___getitem__, t_Row___len__, t_Row___eq__], cats, xcs⟩⟩
def t_Row_kinds : List D → M D := fnB T_Row_kinds 1 1 b_Row_kinds
theorem T_Row_kinds_cls : T_Row_kinds.cls = cls := (rfl)
theorem T_Row_kinds_cons : T_Row_kinds.cons = cs := (rfl)
theorem o_Row_kinds {d0 : D} {μ : Store} {Q : D → Store → Prop} {X : Exc → Store → Prop} : wp (t_Row_kinds [d0]) μ Q X = ws (execL T_Row_kinds b_Row_kinds [some d0] μ) (endQ μ.length Q X) := w_fnB rfl
/-- Row.__add__ -/
def n_Row___add__ : List Str := ["self", "other"]
def b_Row___add__ : List S := [
  .ife (.not (.val (.isi (.var 1) (.own 0)))) [.dead] [],
  .ret (.cm 0 "of" [(.call 4 [(.lst [(.star (.att (.var 0) "own_kinds")), (.star (.att (.var 1) "own_kinds"))])])])]
def T_Row___add__ : Tab := ⟨[t_is_integer, t_is_pair, t_are_kinds, t_Row___init__, t_gathered, t_Row_of, t_Row_stretches, t_is_from, t_Row_require_index, t_Row_raised, t_Row_degree_at, t_Row___getitem__, t_Row___len__, t_Row___eq__, t_Row_kinds], cs, cls, ⟨[t_is_integer, t_is_pair, t_are_kinds, t_Row___init__, t_gathered, t_Row_of, t_Row_stretches, t_is_from, t_Row_require_index, t_Row_raised, t_Row_degree_at, t_Row___getitem__, t_Row___len__, t_Row___eq__, t_Row_kinds], cats, xcs⟩⟩
def t_Row___add__ : List D → M D := fnB T_Row___add__ 2 2 b_Row___add__
theorem T_Row___add___cls : T_Row___add__.cls = cls := (rfl)
theorem T_Row___add___cons : T_Row___add__.cons = cs := (rfl)
theorem T_Row___add___xcs : T_Row___add__.x.xcs = xcs := (rfl)
theorem c_Row___add____gathered : callT T_Row___add__ 4 = t_gathered := (rfl)
theorem c_Row___add____Row_of : callT T_Row___add__ 5 = t_Row_of := (rfl)
theorem o_Row___add__ {d0 d1 : D} {μ : Store} {Q : D → Store → Prop} {X : Exc → Store → Prop} : wp (t_Row___add__ [d0, d1]) μ Q X = ws (execL T_Row___add__ b_Row___add__ [some d0, some d1] μ) (endQ μ.length Q X) := w_fnB rfl
/-- _law_numbers -/
def n_law_numbers : List Str := ["_law_script", "_law_at", "_law_cell", "_law_whole", "_law_mixed"]
def b_law_numbers : List S := [
  .asg (.name 2) (.ite (.cmp .Lt (.var 1) (.blt .len [(.var 0)])) (.sub (.var 0) (.var 1)) (.bin .Add (.bin .Mult (.int 71) (.var 1)) (.int 29))),
  .asg (.name 3) (.bin .Mod (.blt .int [(.blt .abs [(.var 2)])]) (.bin .Pow (.bin .Pow (.int 10) (.int 57)) (.int 11))),
  .asg (.name 4) (.bin .Add (.bin .Add (.bin .Add (.bin .Mult (.var 3) (.int 1000159)) (.bin .Mult (.int 8287) (.var 1))) (.bin .Mult (.int 47) (.blt .int [(.cmp .Lt (.var 2) (.int 0))]))) (.int 11)),
  .retS [(.blt .max2 [(.int 0), (.bin .Sub (.var 3) (.bin .Pow (.int 10) (.int 16)))]), (.bin .Mod (.blt .int [(.var 4)]) (.int 1152921504606846901)), (.int 0)]]
def T_law_numbers : Tab := ⟨[t_is_integer, t_is_pair, t_are_kinds, t_Row___init__, t_gathered, t_Row_of, t_Row_stretches, t_is_from, t_Row_require_index, t_Row_raised, t_Row_degree_at, t_Row___getitem__, t_Row___len__, t_Row___eq__, t_Row_kinds, t_Row___add__], cs, cls, ⟨[t_is_integer, t_is_pair, t_are_kinds, t_Row___init__, t_gathered, t_Row_of, t_Row_stretches, t_is_from, t_Row_require_index, t_Row_raised, t_Row_degree_at, t_Row___getitem__, t_Row___len__, t_Row___eq__, t_Row_kinds, t_Row___add__], cats, xcs⟩⟩
def t_law_numbers : List D → M D := fnN T_law_numbers 5 2 b_law_numbers
theorem T_law_numbers_cls : T_law_numbers.cls = cls := (rfl)
theorem T_law_numbers_cons : T_law_numbers.cons = cs := (rfl)
theorem c_law_numbers__Row___getitem__ : callT T_law_numbers 11 = t_Row___getitem__ := (rfl)
theorem c_law_numbers__Row___len__ : callT T_law_numbers 12 = t_Row___len__ := (rfl)
theorem c_law_numbers__Row___add__ : callT T_law_numbers 15 = t_Row___add__ := (rfl)
theorem o_law_numbers {d0 d1 : D} {μ : Store} {Q : D → Store → Prop} {X : Exc → Store → Prop} : wp (t_law_numbers [d0, d1]) μ Q X = ws (execL T_law_numbers b_law_numbers [some d0, some d1, none, none, none] μ) (endN μ.length Q) := w_fnN rfl
/-- Row.joined -/
def n_Row_joined : List Str := ["self", "many", "pairs", "degree", "count"]
def b_Row_joined : List S := [
  .ife (.not (.val (.call 7 [(.var 1), (.int 0), (.gcon 1)]))) [.rai 2 (.var 1)] [],
  .asg (.name 2) (.lc [3, 4] (.tup [(.name 3), (.name 4)]) (.val (.att (.var 0) "own_kinds")) [] (.tup [(.bin .Add (.var 3) (.var 1)), (.var 4)])),
  .ret (.cm 0 "of" [(.call 4 [(.lst [(.star (.var 2)), (.tup [(.bin .Sub (.bin .Add (.att (.var 0) "own_places") (.var 1)) (.int 1)), (.var 1)])])])])]
def T_Row_joined : Tab := ⟨[t_is_integer, t_is_pair, t_are_kinds, t_Row___init__, t_gathered, t_Row_of, t_Row_stretches, t_is_from, t_Row_require_index, t_Row_raised, t_Row_degree_at, t_Row___getitem__, t_Row___len__, t_Row___eq__, t_Row_kinds, t_Row___add__, t_law_numbers], cs, cls, ⟨[t_is_integer, t_is_pair, t_are_kinds, t_Row___init__, t_gathered, t_Row_of, t_Row_stretches, t_is_from, t_Row_require_index, t_Row_raised, t_Row_degree_at, t_Row___getitem__, t_Row___len__, t_Row___eq__, t_Row_kinds, t_Row___add__, t_law_numbers], cats, xcs⟩⟩
def t_Row_joined : List D → M D := fnB T_Row_joined 5 2 b_Row_joined
theorem T_Row_joined_cls : T_Row_joined.cls = cls := (rfl)
theorem T_Row_joined_cons : T_Row_joined.cons = cs := (rfl)
theorem T_Row_joined_xcs : T_Row_joined.x.xcs = xcs := (rfl)
theorem c_Row_joined__gathered : callT T_Row_joined 4 = t_gathered := (rfl)
theorem c_Row_joined__Row_of : callT T_Row_joined 5 = t_Row_of := (rfl)
theorem c_Row_joined__is_from : callT T_Row_joined 7 = t_is_from := (rfl)
theorem o_Row_joined {d0 d1 : D} {μ : Store} {Q : D → Store → Prop} {X : Exc → Store → Prop} : wp (t_Row_joined [d0, d1]) μ Q X = ws (execL T_Row_joined b_Row_joined [some d0, some d1, none, none, none] μ) (endQ μ.length Q X) := w_fnB rfl
/-- Row.places -/
def n_Row_places : List Str := ["self"]
def b_Row_places : List S := [
  .ret (.att (.var 0) "own_places")]
def T_Row_places : Tab := ⟨[t_is_integer, t_is_pair, t_are_kinds, t_Row___init__, t_gathered, t_Row_of, t_Row_stretches, t_is_from, t_Row_require_index, t_Row_raised, t_Row_degree_at, t_Row___getitem__, t_Row___len__, t_Row___eq__, t_Row_kinds, t_Row___add__, t_law_numbers, t_Row_joined], cs, cls, ⟨[t_is_integer, t_is_pair, t_are_kinds, t_Row___init__, t_gathered, t_Row_of, t_Row_stretches, t_is_from, t_Row_require_index, t_Row_raised, t_Row_degree_at, t_Row___getitem__, t_Row___len__, t_Row___eq__, t_Row_kinds, t_Row___add__, t_law_numbers, t_Row_joined], cats, xcs⟩⟩
def t_Row_places : List D → M D := fnB T_Row_places 1 1 b_Row_places
theorem T_Row_places_cls : T_Row_places.cls = cls := (rfl)
theorem T_Row_places_cons : T_Row_places.cons = cs := (rfl)
theorem o_Row_places {d0 : D} {μ : Store} {Q : D → Store → Prop} {X : Exc → Store → Prop} : wp (t_Row_places [d0]) μ Q X = ws (execL T_Row_places b_Row_places [some d0] μ) (endQ μ.length Q X) := w_fnB rfl
/-- Row.least -/
def n_Row_least : List Str := ["self"]
def b_Row_least : List S := [
  .ret (.sub (.sub (.att (.var 0) "own_kinds") (.int 0)) (.int 0))]
def T_Row_least : Tab := ⟨[t_is_integer, t_is_pair, t_are_kinds, t_Row___init__, t_gathered, t_Row_of, t_Row_stretches, t_is_from, t_Row_require_index, t_Row_raised, t_Row_degree_at, t_Row___getitem__, t_Row___len__, t_Row___eq__, t_Row_kinds, t_Row___add__, t_law_numbers, t_Row_joined, t_Row_places], cs, cls, ⟨[t_is_integer, t_is_pair, t_are_kinds, t_Row___init__, t_gathered, t_Row_of, t_Row_stretches, t_is_from, t_Row_require_index, t_Row_raised, t_Row_degree_at, t_Row___getitem__, t_Row___len__, t_Row___eq__, t_Row_kinds, t_Row___add__, t_law_numbers, t_Row_joined, t_Row_places], cats, xcs⟩⟩
def t_Row_least : List D → M D := fnB T_Row_least 1 1 b_Row_least
theorem T_Row_least_cls : T_Row_least.cls = cls := (rfl)
theorem T_Row_least_cons : T_Row_least.cons = cs := (rfl)
theorem o_Row_least {d0 : D} {μ : Store} {Q : D → Store → Prop} {X : Exc → Store → Prop} : wp (t_Row_least [d0]) μ Q X = ws (execL T_Row_least b_Row_least [some d0] μ) (endQ μ.length Q X) := w_fnB rfl
/-- Row.greatest -/
def n_Row_greatest : List Str := ["self"]
def b_Row_greatest : List S := [
  .ret (.sub (.sub (.att (.var 0) "own_kinds") (.neg (.int 1))) (.int 0))]
def T_Row_greatest : Tab := ⟨[t_is_integer, t_is_pair, t_are_kinds, t_Row___init__, t_gathered, t_Row_of, t_Row_stretches, t_is_from, t_Row_require_index, t_Row_raised, t_Row_degree_at, t_Row___getitem__, t_Row___len__, t_Row___eq__, t_Row_kinds, t_Row___add__, t_law_numbers, t_Row_joined, t_Row_places, t_Row_least], cs, cls, ⟨[t_is_integer, t_is_pair, t_are_kinds, t_Row___init__, t_gathered, t_Row_of, t_Row_stretches, t_is_from, t_Row_require_index, t_Row_raised, t_Row_degree_at, t_Row___getitem__, t_Row___len__, t_Row___eq__, t_Row_kinds, t_Row___add__, t_law_numbers, t_Row_joined, t_Row_places, t_Row_least], cats, xcs⟩⟩
def t_Row_greatest : List D → M D := fnB T_Row_greatest 1 1 b_Row_greatest
theorem T_Row_greatest_cls : T_Row_greatest.cls = cls := (rfl)
theorem T_Row_greatest_cons : T_Row_greatest.cons = cs := (rfl)
theorem o_Row_greatest {d0 : D} {μ : Store} {Q : D → Store → Prop} {X : Exc → Store → Prop} : wp (t_Row_greatest [d0]) μ Q X = ws (execL T_Row_greatest b_Row_greatest [some d0] μ) (endQ μ.length Q X) := w_fnB rfl
/-- Row.total -/
def n_Row_total : List Str := ["self", "degree", "count"]
def b_Row_total : List S := [
  .ret (.blt .sum [(.lc [1, 2] (.tup [(.name 1), (.name 2)]) (.val (.att (.var 0) "own_kinds")) [] (.bin .Mult (.var 1) (.var 2)))])]
def T_Row_total : Tab := ⟨[t_is_integer, t_is_pair, t_are_kinds, t_Row___init__, t_gathered, t_Row_of, t_Row_stretches, t_is_from, t_Row_require_index, t_Row_raised, t_Row_degree_at, t_Row___getitem__, t_Row___len__, t_Row___eq__, t_Row_kinds, t_Row___add__, t_law_numbers, t_Row_joined, t_Row_places, t_Row_least, t_Row_greatest], cs, cls, ⟨[t_is_integer, t_is_pair, t_are_kinds, t_Row___init__, t_gathered, t_Row_of, t_Row_stretches, t_is_from, t_Row_require_index, t_Row_raised, t_Row_degree_at, t_Row___getitem__, t_Row___len__, t_Row___eq__, t_Row_kinds, t_Row___add__, t_law_numbers, t_Row_joined, t_Row_places, t_Row_least, t_Row_greatest], cats, xcs⟩⟩
def t_Row_total : List D → M D := fnB T_Row_total 3 1 b_Row_total
theorem T_Row_total_cls : T_Row_total.cls = cls := (rfl)
theorem T_Row_total_cons : T_Row_total.cons = cs := (rfl)
theorem o_Row_total {d0 : D} {μ : Store} {Q : D → Store → Prop} {X : Exc → Store → Prop} : wp (t_Row_total [d0]) μ Q X = ws (execL T_Row_total b_Row_total [some d0, none, none] μ) (endQ μ.length Q X) := w_fnB rfl
/-- _law_cast -/
def n_law_cast : List Str := ["_law_die", "_law_total", "_law_found", "_law_one", "_law_two"]
def b_law_cast : List S := [
  .ife (.cmp .Gt (.sub (.var 0) (.int 0)) (.int 0)) [.asg (.name 2) (.bin .Mod (.blt .int [(.sub (.var 0) (.int 0))]) (.var 1)), .put 0 (.int 0) (.bin .FloorDiv (.sub (.var 0) (.int 0)) (.var 1)), .ret (.var 2)] [],
  .put 0 (.int 2) (.bin .Add (.sub (.var 0) (.int 2)) (.int 1)),
  .asg (.name 3) (.bin .Mod (.blt .int [(.bin .Add (.sub (.var 0) (.int 1)) (.bin .Mult (.int 715827883) (.sub (.var 0) (.int 2))))]) (.int 2305843009213693907)),
  .asg (.name 4) (.bin .Add (.bin .Mult (.bin .Mod (.blt .int [(.bin .Mult (.var 3) (.var 3))]) (.int 1152921504606846719)) (.var 3)) (.bin .Mult (.int 7243) (.sub (.var 0) (.int 2)))),
  .ret (.bin .Mod (.blt .int [(.bin .FloorDiv (.bin .Mod (.blt .int [(.bin .Add (.var 4) (.sub (.var 0) (.int 1)))]) (.int 8796093022117)) (.int 128))]) (.var 1))]
def T_law_cast : Tab := ⟨[t_is_integer, t_is_pair, t_are_kinds, t_Row___init__, t_gathered, t_Row_of, t_Row_stretches, t_is_from, t_Row_require_index, t_Row_raised, t_Row_degree_at, t_Row___getitem__, t_Row___len__, t_Row___eq__, t_Row_kinds, t_Row___add__, t_law_numbers, t_Row_joined, t_Row_places, t_Row_least, t_Row_greatest, t_Row_total], cs, cls, ⟨[t_is_integer, t_is_pair, t_are_kinds, t_Row___init__, t_gathered, t_Row_of, t_Row_stretches, t_is_from, t_Row_require_index, t_Row_raised, t_Row_degree_at, t_Row___getitem__, t_Row___len__, t_Row___eq__, t_Row_kinds, t_Row___add__, t_law_numbers, t_Row_joined, t_Row_places, t_Row_least, t_Row_greatest, t_Row_total], cats, xcs⟩⟩
def t_law_cast : List D → M D := fnB T_law_cast 5 2 b_law_cast
theorem T_law_cast_cls : T_law_cast.cls = cls := (rfl)
theorem T_law_cast_cons : T_law_cast.cons = cs := (rfl)
theorem c_law_cast__Row___getitem__ : callT T_law_cast 11 = t_Row___getitem__ := (rfl)
theorem c_law_cast__Row___add__ : callT T_law_cast 15 = t_Row___add__ := (rfl)
theorem o_law_cast {d0 d1 : D} {μ : Store} {Q : D → Store → Prop} {X : Exc → Store → Prop} : wp (t_law_cast [d0, d1]) μ Q X = ws (execL T_law_cast b_law_cast [some d0, some d1, none, none, none] μ) (endQ μ.length Q X) := w_fnB rfl
/-- _law_pick -/
def n_law_pick : List Str := ["_law_die", "_law_items"]
def b_law_pick : List S := [
  .ret (.sub (.var 1) (.call 22 [(.var 0), (.blt .len [(.var 1)])]))]
def T_law_pick : Tab := ⟨[t_is_integer, t_is_pair, t_are_kinds, t_Row___init__, t_gathered, t_Row_of, t_Row_stretches, t_is_from, t_Row_require_index, t_Row_raised, t_Row_degree_at, t_Row___getitem__, t_Row___len__, t_Row___eq__, t_Row_kinds, t_Row___add__, t_law_numbers, t_Row_joined, t_Row_places, t_Row_least, t_Row_greatest, t_Row_total, t_law_cast], cs, cls, ⟨[t_is_integer, t_is_pair, t_are_kinds, t_Row___init__, t_gathered, t_Row_of, t_Row_stretches, t_is_from, t_Row_require_index, t_Row_raised, t_Row_degree_at, t_Row___getitem__, t_Row___len__, t_Row___eq__, t_Row_kinds, t_Row___add__, t_law_numbers, t_Row_joined, t_Row_places, t_Row_least, t_Row_greatest, t_Row_total, t_law_cast], cats, xcs⟩⟩
def t_law_pick : List D → M D := fnB T_law_pick 2 2 b_law_pick
theorem T_law_pick_cls : T_law_pick.cls = cls := (rfl)
theorem T_law_pick_cons : T_law_pick.cons = cs := (rfl)
theorem c_law_pick__Row___getitem__ : callT T_law_pick 11 = t_Row___getitem__ := (rfl)
theorem c_law_pick__Row___len__ : callT T_law_pick 12 = t_Row___len__ := (rfl)
theorem c_law_pick__law_cast : callT T_law_pick 22 = t_law_cast := (rfl)
theorem o_law_pick {d0 d1 : D} {μ : Store} {Q : D → Store → Prop} {X : Exc → Store → Prop} : wp (t_law_pick [d0, d1]) μ Q X = ws (execL T_law_pick b_law_pick [some d0, some d1] μ) (endQ μ.length Q X) := w_fnB rfl
/-- _law_far_kinds -/
def n_law_far_kinds : List Str := ["_law_die", "_law_found", "_law_degree", "_law_turn"]
def b_law_far_kinds : List S := [
  .par 1 2 (.own []) (.call 23 [(.var 0), (.lst [(.int 0), (.int 1), (.int 3), (.bin .Pow (.int 10) (.int 6))])]),
  .for (.name 3) (.rng1 (.bin .Add (.int 1) (.call 22 [(.var 0), (.int 4)]))) [.app 1 (.tup [(.var 2), (.call 23 [(.var 0), (.lst [(.int 1), (.int 2), (.bin .Pow (.int 10) (.int 9)), (.bin .Add (.bin .Pow (.int 10) (.int 29)) (.int 7)), (.bin .Pow (.int 10) (.int 30))])])]), .asg (.name 2) (.bin .Add (.var 2) (.call 23 [(.var 0), (.lst [(.int 1), (.int 2), (.bin .Pow (.int 10) (.int 8)), (.bin .Pow (.int 10) (.int 28))])]))],
  .app 1 (.tup [(.var 2), (.bin .Add (.bin .Pow (.int 10) (.int 30)) (.call 22 [(.var 0), (.int 1000)]))]),
  .ret (.blt .tuple [(.raw 1)])]
def T_law_far_kinds : Tab := ⟨[t_is_integer, t_is_pair, t_are_kinds, t_Row___init__, t_gathered, t_Row_of, t_Row_stretches, t_is_from, t_Row_require_index, t_Row_raised, t_Row_degree_at, t_Row___getitem__, t_Row___len__, t_Row___eq__, t_Row_kinds, t_Row___add__, t_law_numbers, t_Row_joined, t_Row_places, t_Row_least, t_Row_greatest, t_Row_total, t_law_cast, t_law_pick], cs, cls, ⟨[t_is_integer, t_is_pair, t_are_kinds, t_Row___init__, t_gathered, t_Row_of, t_Row_stretches, t_is_from, t_Row_require_index, t_Row_raised, t_Row_degree_at, t_Row___getitem__, t_Row___len__, t_Row___eq__, t_Row_kinds, t_Row___add__, t_law_numbers, t_Row_joined, t_Row_places, t_Row_least, t_Row_greatest, t_Row_total, t_law_cast, t_law_pick], cats, xcs⟩⟩
def t_law_far_kinds : List D → M D := fnB T_law_far_kinds 4 1 b_law_far_kinds
theorem T_law_far_kinds_cls : T_law_far_kinds.cls = cls := (rfl)
theorem T_law_far_kinds_cons : T_law_far_kinds.cons = cs := (rfl)
theorem c_law_far_kinds__Row___add__ : callT T_law_far_kinds 15 = t_Row___add__ := (rfl)
theorem c_law_far_kinds__law_cast : callT T_law_far_kinds 22 = t_law_cast := (rfl)
theorem c_law_far_kinds__law_pick : callT T_law_far_kinds 23 = t_law_pick := (rfl)
theorem o_law_far_kinds {d0 : D} {μ : Store} {Q : D → Store → Prop} {X : Exc → Store → Prop} : wp (t_law_far_kinds [d0]) μ Q X = ws (execL T_law_far_kinds b_law_far_kinds [some d0, none, none, none] μ) (endQ μ.length Q X) := w_fnB rfl
/-- _law_degree_at -/
def n_law_degree_at : List Str := ["_law_kinds", "_law_index", "_law_degree", "_law_count"]
def b_law_degree_at : List S := [
  .for (.tup [(.name 2), (.name 3)]) (.val (.var 0)) [.ife (.cmp .Lt (.var 1) (.var 3)) [.ret (.var 2)] [], .asg (.name 1) (.bin .Sub (.var 1) (.var 3))],
  .ret .non]
def T_law_degree_at : Tab := ⟨[t_is_integer, t_is_pair, t_are_kinds, t_Row___init__, t_gathered, t_Row_of, t_Row_stretches, t_is_from, t_Row_require_index, t_Row_raised, t_Row_degree_at, t_Row___getitem__, t_Row___len__, t_Row___eq__, t_Row_kinds, t_Row___add__, t_law_numbers, t_Row_joined, t_Row_places, t_Row_least, t_Row_greatest, t_Row_total, t_law_cast, t_law_pick, t_law_far_kinds], cs, cls, ⟨[t_is_integer, t_is_pair, t_are_kinds, t_Row___init__, t_gathered, t_Row_of, t_Row_stretches, t_is_from, t_Row_require_index, t_Row_raised, t_Row_degree_at, t_Row___getitem__, t_Row___len__, t_Row___eq__, t_Row_kinds, t_Row___add__, t_law_numbers, t_Row_joined, t_Row_places, t_Row_least, t_Row_greatest, t_Row_total, t_law_cast, t_law_pick, t_law_far_kinds], cats, xcs⟩⟩
def t_law_degree_at : List D → M D := fnB T_law_degree_at 4 2 b_law_degree_at
theorem T_law_degree_at_cls : T_law_degree_at.cls = cls := (rfl)
theorem T_law_degree_at_cons : T_law_degree_at.cons = cs := (rfl)
theorem o_law_degree_at {d0 d1 : D} {μ : Store} {Q : D → Store → Prop} {X : Exc → Store → Prop} : wp (t_law_degree_at [d0, d1]) μ Q X = ws (execL T_law_degree_at b_law_degree_at [some d0, some d1, none, none] μ) (endQ μ.length Q X) := w_fnB rfl
/-- _law_put -/
def n_law_put : List Str := ["_law_pairs", "_law_table", "_law_degree", "_law_count"]
def b_law_put : List S := [
  .asg (.name 1) .dnw,
  .for (.tup [(.name 2), (.name 3)]) (.val (.var 0)) [.ife (.cmp .Gt (.var 3) (.int 0)) [.put 1 (.var 2) (.bin .Add (.get (.raw 1) (.var 2) (.int 0)) (.var 3))] []],
  .ret (.blt .tuple [(.lc [2] (.name 2) (.val (.blt .sorted [(.raw 1)])) [] (.tup [(.var 2), (.sub (.raw 1) (.var 2))]))])]
def T_law_put : Tab := ⟨[t_is_integer, t_is_pair, t_are_kinds, t_Row___init__, t_gathered, t_Row_of, t_Row_stretches, t_is_from, t_Row_require_index, t_Row_raised, t_Row_degree_at, t_Row___getitem__, t_Row___len__, t_Row___eq__, t_Row_kinds, t_Row___add__, t_law_numbers, t_Row_joined, t_Row_places, t_Row_least, t_Row_greatest, t_Row_total, t_law_cast, t_law_pick, t_law_far_kinds, t_law_degree_at], cs, cls, ⟨[t_is_integer, t_is_pair, t_are_kinds, t_Row___init__, t_gathered, t_Row_of, t_Row_stretches, t_is_from, t_Row_require_index, t_Row_raised, t_Row_degree_at, t_Row___getitem__, t_Row___len__, t_Row___eq__, t_Row_kinds, t_Row___add__, t_law_numbers, t_Row_joined, t_Row_places, t_Row_least, t_Row_greatest, t_Row_total, t_law_cast, t_law_pick, t_law_far_kinds, t_law_degree_at], cats, xcs⟩⟩
def t_law_put : List D → M D := fnB T_law_put 4 1 b_law_put
theorem T_law_put_cls : T_law_put.cls = cls := (rfl)
theorem T_law_put_cons : T_law_put.cons = cs := (rfl)
theorem c_law_put__Row___getitem__ : callT T_law_put 11 = t_Row___getitem__ := (rfl)
theorem c_law_put__Row___add__ : callT T_law_put 15 = t_Row___add__ := (rfl)
theorem o_law_put {d0 : D} {μ : Store} {Q : D → Store → Prop} {X : Exc → Store → Prop} : wp (t_law_put [d0]) μ Q X = ws (execL T_law_put b_law_put [some d0, none, none, none] μ) (endQ μ.length Q X) := w_fnB rfl
/-- _law_raised -/
def n_law_raised : List Str := ["_law_kinds", "_law_index", "_law_degree", "_law_pairs", "_law_old", "_law_count", "_law_low"]
def b_law_raised : List S := [
  .asg (.name 3) (.lst []),
  .for (.tup [(.name 4), (.name 5)]) (.val (.var 0)) [.asg (.name 6) (.blt .max2 [(.int 0), (.blt .min2 [(.var 1), (.var 5)])]), .asg (.name 3) (.bin .Add (.var 3) (.lst [(.tup [(.var 4), (.var 6)]), (.tup [(.blt .max2 [(.var 4), (.var 2)]), (.bin .Sub (.var 5) (.var 6))])])), .asg (.name 1) (.bin .Sub (.var 1) (.var 5))],
  .ret (.call 26 [(.var 3)])]
def T_law_raised : Tab := ⟨[t_is_integer, t_is_pair, t_are_kinds, t_Row___init__, t_gathered, t_Row_of, t_Row_stretches, t_is_from, t_Row_require_index, t_Row_raised, t_Row_degree_at, t_Row___getitem__, t_Row___len__, t_Row___eq__, t_Row_kinds, t_Row___add__, t_law_numbers, t_Row_joined, t_Row_places, t_Row_least, t_Row_greatest, t_Row_total, t_law_cast, t_law_pick, t_law_far_kinds, t_law_degree_at, t_law_put], cs, cls, ⟨[t_is_integer, t_is_pair, t_are_kinds, t_Row___init__, t_gathered, t_Row_of, t_Row_stretches, t_is_from, t_Row_require_index, t_Row_raised, t_Row_degree_at, t_Row___getitem__, t_Row___len__, t_Row___eq__, t_Row_kinds, t_Row___add__, t_law_numbers, t_Row_joined, t_Row_places, t_Row_least, t_Row_greatest, t_Row_total, t_law_cast, t_law_pick, t_law_far_kinds, t_law_degree_at, t_law_put], cats, xcs⟩⟩
def t_law_raised : List D → M D := fnB T_law_raised 7 3 b_law_raised
theorem T_law_raised_cls : T_law_raised.cls = cls := (rfl)
theorem T_law_raised_cons : T_law_raised.cons = cs := (rfl)
theorem c_law_raised__Row___add__ : callT T_law_raised 15 = t_Row___add__ := (rfl)
theorem c_law_raised__law_put : callT T_law_raised 26 = t_law_put := (rfl)
theorem o_law_raised {d0 d1 d2 : D} {μ : Store} {Q : D → Store → Prop} {X : Exc → Store → Prop} : wp (t_law_raised [d0, d1, d2]) μ Q X = ws (execL T_law_raised b_law_raised [some d0, some d1, some d2, none, none, none, none] μ) (endQ μ.length Q X) := w_fnB rfl
/-- Row.degrees -/
def n_Row_degrees : List Str := ["self", "degree", "count", "turn"]
def b_Row_degrees : List S := [
  .ife (.cmp .Gt (.att (.var 0) "own_places") (.gcon 2)) [.rai 3 (.gcon 2)] [],
  .ret (.blt .tuple [(.lc2 [1, 2, 3] [3] (.tup [(.name 1), (.name 2)]) (.val (.att (.var 0) "own_kinds")) [] (.name 3) (.rng1 (.var 2)) [] (.var 1))])]
def T_Row_degrees : Tab := ⟨[t_is_integer, t_is_pair, t_are_kinds, t_Row___init__, t_gathered, t_Row_of, t_Row_stretches, t_is_from, t_Row_require_index, t_Row_raised, t_Row_degree_at, t_Row___getitem__, t_Row___len__, t_Row___eq__, t_Row_kinds, t_Row___add__, t_law_numbers, t_Row_joined, t_Row_places, t_Row_least, t_Row_greatest, t_Row_total, t_law_cast, t_law_pick, t_law_far_kinds, t_law_degree_at, t_law_put, t_law_raised], cs, cls, ⟨[t_is_integer, t_is_pair, t_are_kinds, t_Row___init__, t_gathered, t_Row_of, t_Row_stretches, t_is_from, t_Row_require_index, t_Row_raised, t_Row_degree_at, t_Row___getitem__, t_Row___len__, t_Row___eq__, t_Row_kinds, t_Row___add__, t_law_numbers, t_Row_joined, t_Row_places, t_Row_least, t_Row_greatest, t_Row_total, t_law_cast, t_law_pick, t_law_far_kinds, t_law_degree_at, t_law_put, t_law_raised], cats, xcs⟩⟩
def t_Row_degrees : List D → M D := fnB T_Row_degrees 4 1 b_Row_degrees
theorem T_Row_degrees_cls : T_Row_degrees.cls = cls := (rfl)
theorem T_Row_degrees_cons : T_Row_degrees.cons = cs := (rfl)
theorem T_Row_degrees_xcs : T_Row_degrees.x.xcs = xcs := (rfl)
theorem o_Row_degrees {d0 : D} {μ : Store} {Q : D → Store → Prop} {X : Exc → Store → Prop} : wp (t_Row_degrees [d0]) μ Q X = ws (execL T_Row_degrees b_Row_degrees [some d0, none, none, none] μ) (endQ μ.length Q X) := w_fnB rfl
/-- _law_limit -/
def n_law_limit : List Str := ["_law_row", "error"]
def b_law_limit : List S := [
  .tri [.ret (.bin .Mult (.int 0) (.blt .len [(.att (.var 0) "degrees")]))] [⟨3, some 1, .att "limit"⟩]]
def T_law_limit : Tab := ⟨[t_is_integer, t_is_pair, t_are_kinds, t_Row___init__, t_gathered, t_Row_of, t_Row_stretches, t_is_from, t_Row_require_index, t_Row_raised, t_Row_degree_at, t_Row___getitem__, t_Row___len__, t_Row___eq__, t_Row_kinds, t_Row___add__, t_law_numbers, t_Row_joined, t_Row_places, t_Row_least, t_Row_greatest, t_Row_total, t_law_cast, t_law_pick, t_law_far_kinds, t_law_degree_at, t_law_put, t_law_raised, t_Row_degrees], cs, cls, ⟨[t_is_integer, t_is_pair, t_are_kinds, t_Row___init__, t_gathered, t_Row_of, t_Row_stretches, t_is_from, t_Row_require_index, t_Row_raised, t_Row_degree_at, t_Row___getitem__, t_Row___len__, t_Row___eq__, t_Row_kinds, t_Row___add__, t_law_numbers, t_Row_joined, t_Row_places, t_Row_least, t_Row_greatest, t_Row_total, t_law_cast, t_law_pick, t_law_far_kinds, t_law_degree_at, t_law_put, t_law_raised, t_Row_degrees], cats, xcs⟩⟩
def t_law_limit : List D → M D := fnB T_law_limit 2 1 b_law_limit
theorem T_law_limit_cls : T_law_limit.cls = cls := (rfl)
theorem T_law_limit_cons : T_law_limit.cons = cs := (rfl)
theorem T_law_limit_xcs : T_law_limit.x.xcs = xcs := (rfl)
theorem c_law_limit__Row___len__ : callT T_law_limit 12 = t_Row___len__ := (rfl)
theorem c_law_limit__Row_degrees : callT T_law_limit 28 = t_Row_degrees := (rfl)
theorem o_law_limit {d0 : D} {μ : Store} {Q : D → Store → Prop} {X : Exc → Store → Prop} : wp (t_law_limit [d0]) μ Q X = ws (execL T_law_limit b_law_limit [some d0, none] μ) (endQ μ.length Q X) := w_fnB rfl
/-- _law_right -/
def n_law_right : List Str := ["_law_die", "_law_kinds", "_law_row", "_law_total", "_law_ends", "_law_last", "_law_degree", "_law_count", "_law_index", "_law_turn", "_law_many", "_law_joined", "_law_one"]
def b_law_right : List S := [
  .asg (.name 1) (.call 24 [(.var 0)]),
  .par 2 3 (.cm 0 "of" [(.var 1)]) (.blt .sum [(.lc [6, 7] (.tup [(.name 6), (.name 7)]) (.val (.var 1)) [] (.var 7))]),
  .ife (.cmp .NotEq (.lst [(.att (.var 2) "places"), (.att (.var 2) "least"), (.att (.var 2) "greatest"), (.blt .len [(.var 2)])]) (.lst [(.var 3), (.sub (.sub (.var 1) (.int 0)) (.int 0)), (.sub (.sub (.var 1) (.neg (.int 1))) (.int 0)), (.blt .len [(.var 1)])])) [.ret (.bl false)] [],
  .ife (.cmp .NotEq (.att (.var 2) "total") (.blt .sum [(.lc [6, 7] (.tup [(.name 6), (.name 7)]) (.val (.var 1)) [] (.bin .Mult (.var 6) (.var 7)))])) [.ret (.bl false)] [],
  .par 4 5 (.lst [(.int 0), (.bin .Sub (.var 3) (.int 1)), (.bin .FloorDiv (.var 3) (.int 2)), (.bin .FloorDiv (.var 3) (.int 3))]) (.int 0),
  .for (.tup [(.name 6), (.name 7)]) (.val (.var 1)) [.par 4 5 (.bin .Add (.var 4) (.lst [(.var 5), (.bin .Sub (.bin .Add (.var 5) (.var 7)) (.int 1))])) (.bin .Add (.var 5) (.var 7))],
  .for (.name 8) (.val (.var 4)) [.ife (.cmp .NotEq (.sub (.var 2) (.var 8)) (.call 25 [(.var 1), (.var 8)])) [.ret (.bl false)] []],
  .for (.name 9) (.rng1 (.int 4)) [.asg (.name 8) (.call 23 [(.var 0), (.var 4)]), .asg (.name 6) (.call 23 [(.var 0), (.lst [(.int 0), (.bin .Sub (.var 3) (.int 1)), (.sub (.call 23 [(.var 0), (.var 1)]) (.int 0)), (.bin .Pow (.int 10) (.int 9))])]), .ife (.cmp .NotEq (.att (.met (.var 2) "raised" [(.var 8), (.var 6)]) "kinds") (.call 27 [(.var 1), (.var 8), (.var 6)])) [.ret (.bl false)] []],
  .asg (.name 10) (.call 23 [(.var 0), (.lst [(.int 0), (.int 1), (.bin .Pow (.int 10) (.int 30)), (.bin .Add (.int 7) (.call 22 [(.var 0), (.bin .Pow (.int 10) (.int 6))]))])]),
  .asg (.name 11) (.call 26 [(.bin .Add (.lc [6, 7] (.tup [(.name 6), (.name 7)]) (.val (.var 1)) [] (.tup [(.bin .Add (.var 6) (.var 10)), (.var 7)])) (.lst [(.tup [(.bin .Sub (.bin .Add (.var 3) (.var 10)) (.int 1)), (.var 10)])]))]),
  .ife (.cmp .NotEq (.att (.met (.var 2) "joined" [(.var 10)]) "kinds") (.var 11)) [.ret (.bl false)] [],
  .ife (.cmp .NotEq (.att (.bin .Add (.var 2) (.var 2)) "kinds") (.blt .tuple [(.lc [12, 7] (.tup [(.name 12), (.name 7)]) (.val (.var 1)) [] (.tup [(.var 12), (.bin .Mult (.int 2) (.var 7))]))])) [.ret (.bl false)] [],
  .ret (.and (.cmp .Eq (.call 29 [(.var 2)]) (.int 64)) (.cmp .Eq (.var 2) (.cm 0 "of" [(.var 1)])))]
def T_law_right : Tab := ⟨[t_is_integer, t_is_pair, t_are_kinds, t_Row___init__, t_gathered, t_Row_of, t_Row_stretches, t_is_from, t_Row_require_index, t_Row_raised, t_Row_degree_at, t_Row___getitem__, t_Row___len__, t_Row___eq__, t_Row_kinds, t_Row___add__, t_law_numbers, t_Row_joined, t_Row_places, t_Row_least, t_Row_greatest, t_Row_total, t_law_cast, t_law_pick, t_law_far_kinds, t_law_degree_at, t_law_put, t_law_raised, t_Row_degrees, t_law_limit], cs, cls, ⟨[t_is_integer, t_is_pair, t_are_kinds, t_Row___init__, t_gathered, t_Row_of, t_Row_stretches, t_is_from, t_Row_require_index, t_Row_raised, t_Row_degree_at, t_Row___getitem__, t_Row___len__, t_Row___eq__, t_Row_kinds, t_Row___add__, t_law_numbers, t_Row_joined, t_Row_places, t_Row_least, t_Row_greatest, t_Row_total, t_law_cast, t_law_pick, t_law_far_kinds, t_law_degree_at, t_law_put, t_law_raised, t_Row_degrees, noF], cats, xcs⟩⟩
def t_law_right : List D → M D := fnB T_law_right 13 1 b_law_right
theorem T_law_right_cls : T_law_right.cls = cls := (rfl)
theorem T_law_right_cons : T_law_right.cons = cs := (rfl)
theorem c_law_right__Row_of : callT T_law_right 5 = t_Row_of := (rfl)
theorem c_law_right__Row_raised : callT T_law_right 9 = t_Row_raised := (rfl)
theorem c_law_right__Row___getitem__ : callT T_law_right 11 = t_Row___getitem__ := (rfl)
theorem c_law_right__Row___len__ : callT T_law_right 12 = t_Row___len__ := (rfl)
theorem c_law_right__Row___eq__ : callT T_law_right 13 = t_Row___eq__ := (rfl)
theorem c_law_right__Row_kinds : callT T_law_right 14 = t_Row_kinds := (rfl)
theorem c_law_right__Row___add__ : callT T_law_right 15 = t_Row___add__ := (rfl)
theorem c_law_right__Row_joined : callT T_law_right 17 = t_Row_joined := (rfl)
theorem c_law_right__Row_places : callT T_law_right 18 = t_Row_places := (rfl)
theorem c_law_right__Row_least : callT T_law_right 19 = t_Row_least := (rfl)
theorem c_law_right__Row_greatest : callT T_law_right 20 = t_Row_greatest := (rfl)
theorem c_law_right__Row_total : callT T_law_right 21 = t_Row_total := (rfl)
theorem c_law_right__law_cast : callT T_law_right 22 = t_law_cast := (rfl)
theorem c_law_right__law_pick : callT T_law_right 23 = t_law_pick := (rfl)
theorem c_law_right__law_far_kinds : callT T_law_right 24 = t_law_far_kinds := (rfl)
theorem c_law_right__law_degree_at : callT T_law_right 25 = t_law_degree_at := (rfl)
theorem c_law_right__law_put : callT T_law_right 26 = t_law_put := (rfl)
theorem c_law_right__law_raised : callT T_law_right 27 = t_law_raised := (rfl)
theorem c_law_right__law_limit : callT T_law_right 29 = t_law_limit := (rfl)
theorem o_law_right {d0 : D} {μ : Store} {Q : D → Store → Prop} {X : Exc → Store → Prop} : wp (t_law_right [d0]) μ Q X = ws (execL T_law_right b_law_right [some d0, none, none, none, none, none, none, none, none, none, none, none, none] μ) (endQ μ.length Q X) := w_fnB rfl
/-- law -/
def n_law : List Str := ["_law_script", "_law_at", "_law_die", "_law_wide", "_law_told"]
def b_law : List S := [
  .for (.name 1) (.rng1 (.blt .max2 [(.int 1), (.blt .min2 [(.int 6), (.blt .len [(.var 0)])])])) [.asg (.name 2) (.call 16 [(.var 0), (.var 1)]), .ife (.or (.not (.val (.call 30 [(.var 2)]))) (.not (.val (.call 30 [(.var 2)])))) [.ret (.bl false)] []],
  .asg (.name 3) (.mk 0 [(.tup [(.int 0), (.bin .Pow (.int 10) (.int 36))])]),
  .asg (.name 4) (.lst [(.call 29 [(.mk 0 [(.tup [(.int 3), (.int 64)])])]), (.call 29 [(.mk 0 [(.tup [(.int 3), (.int 65)])])]), (.sub (.var 3) (.bin .Sub (.bin .Pow (.int 10) (.int 36)) (.int 1))), (.att (.met (.var 3) "raised" [(.bin .Pow (.int 10) (.int 35)), (.int 5)]) "kinds")]),
  .ret (.cmp .Eq (.var 4) (.lst [(.int 0), (.int 64), (.int 0), (.tup [(.tup [(.int 0), (.bin .Pow (.int 10) (.int 35))]), (.tup [(.int 5), (.bin .Mult (.int 9) (.bin .Pow (.int 10) (.int 35)))])])]))]
def T_law : Tab := ⟨[t_is_integer, t_is_pair, t_are_kinds, t_Row___init__, t_gathered, t_Row_of, t_Row_stretches, t_is_from, t_Row_require_index, t_Row_raised, t_Row_degree_at, t_Row___getitem__, t_Row___len__, t_Row___eq__, t_Row_kinds, t_Row___add__, t_law_numbers, t_Row_joined, t_Row_places, t_Row_least, t_Row_greatest, t_Row_total, t_law_cast, t_law_pick, t_law_far_kinds, t_law_degree_at, t_law_put, t_law_raised, t_Row_degrees, t_law_limit, t_law_right], cs, cls, ⟨[t_is_integer, t_is_pair, t_are_kinds, t_Row___init__, t_gathered, t_Row_of, t_Row_stretches, t_is_from, t_Row_require_index, t_Row_raised, t_Row_degree_at, t_Row___getitem__, t_Row___len__, t_Row___eq__, t_Row_kinds, t_Row___add__, t_law_numbers, t_Row_joined, t_Row_places, t_Row_least, t_Row_greatest, t_Row_total, t_law_cast, t_law_pick, t_law_far_kinds, t_law_degree_at, t_law_put, t_law_raised, t_Row_degrees, noF, noF], cats, xcs⟩⟩
def t_law : List D → M D := fnB T_law 5 1 b_law
theorem T_law_cls : T_law.cls = cls := (rfl)
theorem T_law_cons : T_law.cons = cs := (rfl)
theorem c_law__Row___init__ : callT T_law 3 = t_Row___init__ := (rfl)
theorem c_law__Row_raised : callT T_law 9 = t_Row_raised := (rfl)
theorem c_law__Row___getitem__ : callT T_law 11 = t_Row___getitem__ := (rfl)
theorem c_law__Row___len__ : callT T_law 12 = t_Row___len__ := (rfl)
theorem c_law__Row___eq__ : callT T_law 13 = t_Row___eq__ := (rfl)
theorem c_law__Row_kinds : callT T_law 14 = t_Row_kinds := (rfl)
theorem c_law__law_numbers : callT T_law 16 = t_law_numbers := (rfl)
theorem c_law__law_limit : callT T_law 29 = t_law_limit := (rfl)
theorem c_law__law_right : callT T_law 30 = t_law_right := (rfl)
theorem o_law {d0 : D} {μ : Store} {Q : D → Store → Prop} {X : Exc → Store → Prop} : wp (t_law [d0]) μ Q X = ws (execL T_law b_law [some d0, none, none, none, none] μ) (endQ μ.length Q X) := w_fnB rfl
theorem g_0 : cs[0]? = some (.int 1000000000000000000000000000000000000) := (rfl)
theorem g_1 : cs[1]? = some (.int 1000000000000000000000000000000) := (rfl)
theorem g_2 : cs[2]? = some (.int 64) := (rfl)
theorem x_0 : xcs[0]? = some ⟨none, [0]⟩ := (rfl)
theorem x_1 : xcs[1]? = some ⟨none, [1, 0]⟩ := (rfl)
theorem x_2 : xcs[2]? = some ⟨some "value", [2]⟩ := (rfl)
theorem x_3 : xcs[3]? = some ⟨some "limit", [3]⟩ := (rfl)
theorem f_Row_own_kinds : ((cls[0]?).bind fun C => C.fs.idxOf? ("own_kinds" : Str)) = some 0 := by decide +kernel
theorem f_Row_own_places : ((cls[0]?).bind fun C => C.fs.idxOf? ("own_places" : Str)) = some 1 := by decide +kernel
theorem f_Row_kinds : ((cls[0]?).bind fun C => C.fs.idxOf? ("kinds" : Str)) = none := by decide +kernel
theorem p_Row_kinds : ((cls[0]?).bind fun C => C.ps.lookup ("kinds" : Str)) = some 14 := by decide +kernel
theorem f_Row_places : ((cls[0]?).bind fun C => C.fs.idxOf? ("places" : Str)) = none := by decide +kernel
theorem p_Row_places : ((cls[0]?).bind fun C => C.ps.lookup ("places" : Str)) = some 18 := by decide +kernel
theorem f_Row_least : ((cls[0]?).bind fun C => C.fs.idxOf? ("least" : Str)) = none := by decide +kernel
theorem p_Row_least : ((cls[0]?).bind fun C => C.ps.lookup ("least" : Str)) = some 19 := by decide +kernel
theorem f_Row_greatest : ((cls[0]?).bind fun C => C.fs.idxOf? ("greatest" : Str)) = none := by decide +kernel
theorem p_Row_greatest : ((cls[0]?).bind fun C => C.ps.lookup ("greatest" : Str)) = some 20 := by decide +kernel
theorem f_Row_total : ((cls[0]?).bind fun C => C.fs.idxOf? ("total" : Str)) = none := by decide +kernel
theorem p_Row_total : ((cls[0]?).bind fun C => C.ps.lookup ("total" : Str)) = some 21 := by decide +kernel
theorem f_Row_degrees : ((cls[0]?).bind fun C => C.fs.idxOf? ("degrees" : Str)) = none := by decide +kernel
theorem p_Row_degrees : ((cls[0]?).bind fun C => C.ps.lookup ("degrees" : Str)) = some 28 := by decide +kernel
theorem m_Row_degree_at : ((cls[0]?).bind fun C => C.ms.lookup ("degree_at" : Str)) = some 10 := by decide +kernel
theorem m_Row_stretches : ((cls[0]?).bind fun C => C.ms.lookup ("stretches" : Str)) = some 6 := by decide +kernel
theorem m_Row_raised : ((cls[0]?).bind fun C => C.ms.lookup ("raised" : Str)) = some 9 := by decide +kernel
theorem m_Row_joined : ((cls[0]?).bind fun C => C.ms.lookup ("joined" : Str)) = some 17 := by decide +kernel
theorem m_Row_require_index : ((cls[0]?).bind fun C => C.ms.lookup ("require_index" : Str)) = some 8 := by decide +kernel
theorem m_Row___getitem__ : ((cls[0]?).bind fun C => C.ms.lookup ("__getitem__" : Str)) = some 11 := by decide +kernel
theorem m_Row___add__ : ((cls[0]?).bind fun C => C.ms.lookup ("__add__" : Str)) = some 15 := by decide +kernel
theorem m_Row___len__ : ((cls[0]?).bind fun C => C.ms.lookup ("__len__" : Str)) = some 12 := by decide +kernel
theorem m_Row___eq__ : ((cls[0]?).bind fun C => C.ms.lookup ("__eq__" : Str)) = some 13 := by decide +kernel
theorem k_Row_of : ((cls[0]?).bind fun C => C.cs.lookup ("of" : Str)) = some 5 := by decide +kernel
end Lw
namespace Lw
open PySem L2 Sg
local macro_rules | `(tactic| simp_all only [$xs,*]) => `(tactic| simp only [w_non, w_bl, w_int, w_str, w_emp, w_var, w_raw, w_gcon, w_bin, w_neg, w_cmp, w_chain, w_and, w_or, w_not, w_ifx, w_tup, w_lst, w_own, w_dnw, w_call, w_isi, w_mth, w_get, w_sub, w_slc, w_att, w_met, w_mk, w_mks, w_cm, w_lc, w_lc2, w_blt, w_pop, w_ownl, w_cnt, w_cntI, isLst_lst, lstD_lst, w_sset, w_rev, w_fs, wf_nil, wf_cons, sQ_str, w_strf, w_strI, w_strO, d_fmt_int, d_fmt_str, d_notin_lst, d_in_lst, d_bnd_lst, wl_pop, wl_ownl, wl_cnt, wl_sset, wl_rev, wl_fs, wl_strf, wh_nil, wh_cons, h_con, h_att, h_rep, h_cat, h_isi, h_xat, wl_lam, s_rai, s_rai0, tri_next, tri_ret, tri_exc, s_tri, q_repr2, r_bl, r_non, r_int, r_str, r_emp, r_lst, r_tup, s_mat, mQ_none, mQ_some, c_cas, c_nomore, b_nil, b_cons, p_one, p_or, p_seq, p_lit, p_nm, p_wild, p_nil, p_cons, o_nil, o_cons, d_in_tup, d_notin_tup, wl_nil, wl_star, wl_non, wl_bl, wl_int, wl_str, wl_var, wl_raw, wl_gcon, wl_bin, wl_neg, wl_cmp, wl_chain, wl_and, wl_or, wl_not, wl_ite, wl_tup, wl_lst, wl_emp, wl_own, wl_dnw, wl_call, wl_blt, wl_isi, wl_mth, wl_get, wl_sub, wl_slc, wl_att, wl_met, wl_mk, wl_mks, wl_cm, wl_lc, wl_lc2, w_onone, w_osome, wt_val, wt_cmp, wt_chain, wt_not, wt_and, wt_or, wts_nil, wts_cons, wi_val, wi_rng1, wi_rng2, wi_zip, wi_enum, s_asg, s_par, s_put, s_fld, s_app, s_ext, s_ife, s_for, s_ret, s_retN, s_retS, s_expr, s_pass, s_brk, s_cont, ss_nil, ss_cons, thn_next, thn_brk, thn_cont, thn_ret, thn_exc, endN_ret, endN_exc, end_ret, end_next, end_exc, w_frz_non, w_frz_bl, w_frz_int, w_frz_str, w_frz_tup, w_frz_lst, w_frz_rol, w_frz_ins, w_frz_cls, w_frz_dic, wo_some, wo_none, bQ_bl, iQ_int, isi_non_int, isi_non_str, isi_non_tuple, isi_non_list, isi_non_dict, isi_non_bool, isi_non_own, isi_bl_int, isi_bl_str, isi_bl_tuple, isi_bl_list, isi_bl_dict, isi_bl_bool, isi_bl_own, isi_int_int, isi_int_str, isi_int_tuple, isi_int_list, isi_int_dict, isi_int_bool, isi_int_own, isi_str_int, isi_str_str, isi_str_tuple, isi_str_list, isi_str_dict, isi_str_bool, isi_str_own, isi_tup_int, isi_tup_str, isi_tup_tuple, isi_tup_list, isi_tup_dict, isi_tup_bool, isi_tup_own, isi_lst_int, isi_lst_str, isi_lst_tuple, isi_lst_list, isi_lst_dict, isi_lst_bool, isi_lst_own, isi_dic_int, isi_dic_str, isi_dic_tuple, isi_dic_list, isi_dic_dict, isi_dic_bool, isi_dic_own, isi_ins_int, isi_ins_str, isi_ins_tuple, isi_ins_list, isi_ins_dict, isi_ins_bool, isi_ins_own, List.map, Bool.and_true, Bool.true_and, Bool.and_self, eq_self, reduceCtorEq, imp_self, implies_true, forall_const, not_false_eq_true, false_implies, reduceIte, if_true, if_false, wo_ite, w_up, w_rt, w_bd, true_and, and_true, Bool.true_eq_false, Bool.false_eq_true, ite_true, ite_false, startR, List.replicate, List.length_cons, List.length_nil, List.append_nil, List.cons_append, List.nil_append, List.set_cons_zero, List.set_cons_succ, List.getElem?_cons_zero, List.getElem?_cons_succ, List.set, Nat.reduceAdd, Nat.reduceSub, Nat.reduceLeDiff, wipeR, D.nr, D.nrL, metN_ins, opN_ins, w_attI, attQ_some, attQ_none, List.take_length, eq_bl, eq_int, eq_tup, eq_lst, Bool.not_true, Bool.not_false, decide_true, decide_false, Bool.decide_eq_true, w_one1, wo_map, wo_bind, q_bin_non, q_cmp_non, q_sub_non, q_lk_non, q_len_non, q_cmpo_non, q_bin_bl, q_cmp_bl, q_sub_bl, q_lk_bl, q_len_bl, q_cmpo_bl, q_bin_int, q_cmp_int, q_sub_int, q_lk_int, q_len_int, q_cmpo_int, q_bin_str, q_cmp_str, q_sub_str, q_lk_str, q_len_str, q_cmpo_str, q_bin_tup, q_cmp_tup, q_sub_tup, q_lk_tup, q_len_tup, q_cmpo_tup, q_bin_lst, q_cmp_lst, q_sub_lst, q_lk_lst, q_len_lst, q_cmpo_lst, q_bin_dic, q_cmp_dic, q_sub_dic, q_lk_dic, q_len_dic, q_cmpo_dic, q_bin_ref, q_cmp_ref, q_sub_ref, q_len_ref, q_cmpo_ref, q_bin_cls, q_cmp_cls, q_sub_cls, q_lk_cls, q_len_cls, q_cmpo_cls, q_bin_rol, q_cmp_rol, q_sub_rol, q_lk_rol, q_len_rol, q_cmpo_rol, q_lk_ins, q_abs, q_int, q_max2, q_min2, q_all, q_repr, q_any, q_sum, q_sorted, q_tuple, q_list, q_o__lt__, q_o__le__, q_o__gt__, q_o__ge__, q_o__eq__, q_o__add__, q_o__or__, q_osub, d_add_int, d_sub_int, d_mul_int, d_div_int, d_mod_int, d_pow_int, d_add_str, d_add_lst, d_add_tup, d_mul_lst, d_lt_int, d_le_int, d_gt_int, d_ge_int, d_in_dic, d_eq, d_ne, d_is_bl, d_is_non, d_isnot_non, d_tru_bl, d_tru_int, d_tru_tup, d_tru_lst, d_tru_non, d_ix_tup, d_ix_lst, d_ix_rol, d_ix_dic, d_key_int, d_key_str, d_ln_tup, d_ln_lst, d_ln_rol, d_ln_dic, d_ln_str, d_any_lst, d_all_lst, d_sum_lst, d_sorted_lst, d_sorted_dic, d_tuple_lst, d_tuple_tup, d_list_lst, d_list_tup, d_list_dic, d_abs_int, d_int_int, d_int_bl, d_max_int, d_min_int, d_repr_bl, d_repr_lst, d_repr_tup, d_its_lst, d_its_tup, d_sq_lst, d_sq_tup, d_slc_lst, d_slc_tup, d_zip_ll, d_zip_lt, d_zip_tt, d_zip_tl, d_bnd_name, d_bnd_tup, d_bnds_nil, d_dic_y, d_bnds_cons, List.mem_cons, List.not_mem_nil, Nat.reduceEqDiff, or_false, false_or, or_true, true_or, g_0, g_1, g_2, x_0, x_1, x_2, x_3, f_Row_own_kinds, f_Row_own_places, f_Row_kinds, p_Row_kinds, f_Row_places, p_Row_places, f_Row_least, p_Row_least, f_Row_greatest, p_Row_greatest, f_Row_total, p_Row_total, f_Row_degrees, p_Row_degrees, m_Row_degree_at, m_Row_stretches, m_Row_raised, m_Row_joined, m_Row_require_index, m_Row___getitem__, m_Row___add__, m_Row___len__, m_Row___eq__, k_Row_of, $xs,*])
theorem cast_ok : CastOk t_law_cast := by
  intro k n μ Q X hd hn hn2 hq
  obtain ⟨a, b, c, hk⟩ := id hd
  have hdv : divOk n = true := div_ok hn (by omega)
  have e0 : ∀ (a b c : Int) (μ : Store), μ[k]? = some (.shr [.int a, .int b, .int c]) → ∀ {Q : D → Store → Prop} {X : Exc → Store → Prop}, wp (frzD (.ref k)) μ Q X = Q (.ref k) μ := fun a b c μ h Q X => IsDie.frz ⟨a, b, c, h⟩
  have hk2 : (μ.set k (.shr [.int a, .int b, .int (c + 1)]))[k]? = some (.shr [.int a, .int b, .int (c + 1)]) := List.getElem?_set_self (List.getElem?_eq_some_iff.mp hk).1
  have x0 : ∀ (a b c : D), atI [a, b, c] 0 = some a := fun _ _ _ => rfl
  have x1 : ∀ (a b c : D), atI [a, b, c] 1 = some b := fun _ _ _ => rfl
  have x2 : ∀ (a b c : D), atI [a, b, c] 2 = some c := fun _ _ _ => rfl
  have p0 : putC μ (.ref k) (.int 0) (.int (a / n)) = some (μ.set k (.shr [.int (a / n), .int b, .int c])) := die_put (n := 0) hk rfl rfl
  have p2 : putC μ (.ref k) (.int 2) (.int (c + 1)) = some (μ.set k (.shr [.int a, .int b, .int (c + 1)])) := die_put (n := 2) hk rfl rfl
  have tk : ∀ (x : Cell), List.take (List.length μ) (List.set μ k x) = List.set μ k x := fun x => by rw [← List.length_set (as := μ) (i := k) (a := x), List.take_length]
  have h1 : ∀ x : Int, 0 ≤ x % 2305843009213693907 ∧ x % 2305843009213693907 < 2305843009213693907 := fun x => ⟨Int.emod_nonneg _ (by decide), Int.emod_lt_of_pos _ (by decide)⟩
  simp_all only [T_law_cast_cls, T_law_cast_cons, c_law_cast__Row___getitem__, c_law_cast__Row___add__, o_law_cast, b_law_cast, e0 a b c μ hk, die_sub hk, x0, x1, x2, p0, p2, e0 a b (c + 1) _ hk2, die_sub hk2, tk]
  by_cases ha : 0 < a
  · simp only [ha, decide_true, if_true]
    exact ⟨hn, hdv, hq _ _ (Int.emod_nonneg _ (by omega)) (Int.emod_lt_of_pos _ hn) ⟨_, _, _, rfl⟩⟩
  · simp only [ha, decide_false, Bool.false_eq_true, if_false]
    have b1 := h1 (b + 715827883 * (c + 1))
    refine ⟨mul_l (by decide) (by decide), by decide, mul_l (by omega) (by omega), by decide, mul_r (by omega) (by omega), mul_l (by decide) (by decide), by decide, div_ok (by decide) (by decide), hn, hq _ _ (Int.emod_nonneg _ (by omega)) (Int.emod_lt_of_pos _ hn) ⟨_, _, _, rfl⟩⟩
theorem pick_ok : PickOk t_law_pick := by
  intro k xs μ Q X hd h0 h1 hn hq
  simp_all only [T_law_pick_cls, T_law_pick_cons, c_law_pick__Row___getitem__, c_law_pick__Row___len__, c_law_pick__law_cast, o_law_pick, b_law_pick, hd.frz]
  refine cast_ok k _ μ _ _ hd (by omega) (by omega) fun r μ' r0 r1 hc => ?_
  simp_all only [T_law_pick_cls, T_law_pick_cons, c_law_pick__Row___getitem__, c_law_pick__Row___len__, c_law_pick__law_cast, o_law_pick, b_law_pick, atI_ok r0 r1, hc.take]
  have hm := List.getElem_mem (l := xs) (n := r.toNat) (by omega)
  exact ⟨nrL_mem hn hm, hq _ _ hm hc⟩
theorem num_ok : NumOk t_law_numbers := by
  intro ns i μ Q X hi hq
  have key : ∀ z : Int, wp (evalE T_law_numbers (.ite (.cmp .Lt (.var 1) (.blt .len [(.var 0)])) (.sub (.var 0) (.var 1)) (.bin .Add (.bin .Mult (.int 71) (.var 1)) (.int 29))) [some (.rol (ns.map D.int)), some (.int i), none, none, none]) μ (fun d μ' => μ' = μ ∧ ∃ j : Int, d = .int j) fun _ _ => False := by
    intro z
    simp_all only [T_law_numbers_cls, T_law_numbers_cons, c_law_numbers__Row___getitem__, c_law_numbers__Row___len__, c_law_numbers__Row___add__, o_law_numbers, b_law_numbers, List.length_map, atI_map]
    by_cases h : (i : Int) < ns.length
    · simp only [h, decide_true, if_true]
      rw [atI_ok (by omega) h]
      exact ⟨_, rfl⟩
    · simp only [h, decide_false, Bool.false_eq_true, if_false]
      exact ⟨mul_l (by decide) (by decide), _, rfl⟩
  rw [o_law_numbers, b_law_numbers, ss_cons, s_asg]
  refine w_mono (key 0) ?_ ?_
  · rintro d μ' ⟨rfl, j, rfl⟩
    simp_all only [T_law_numbers_cls, T_law_numbers_cons, c_law_numbers__Row___getitem__, c_law_numbers__Row___len__, c_law_numbers__Row___add__, o_law_numbers, b_law_numbers]
    refine ⟨by decide +kernel, by decide +kernel, by decide +kernel, mul_r (by decide) (by decide), mul_l (by decide) (by decide), mul_l (by decide) (by decide), by decide +kernel, by decide, sz (by decide), hq _ _ _⟩
  · exact fun _ _ h => h.elim
end Lw
namespace Lw
open PySem L2 Sg Rw
local macro_rules | `(tactic| simp_all only [$xs,*]) => `(tactic| simp only [w_non, w_bl, w_int, w_str, w_emp, w_var, w_raw, w_gcon, w_bin, w_neg, w_cmp, w_chain, w_and, w_or, w_not, w_ifx, w_tup, w_lst, w_own, w_dnw, w_call, w_isi, w_mth, w_get, w_sub, w_slc, w_att, w_met, w_mk, w_mks, w_cm, w_lc, w_lc2, w_blt, w_pop, w_ownl, w_cnt, w_cntI, isLst_lst, lstD_lst, w_sset, w_rev, w_fs, wf_nil, wf_cons, sQ_str, w_strf, w_strI, w_strO, d_fmt_int, d_fmt_str, d_notin_lst, d_in_lst, d_bnd_lst, wl_pop, wl_ownl, wl_cnt, wl_sset, wl_rev, wl_fs, wl_strf, wh_nil, wh_cons, h_con, h_att, h_rep, h_cat, h_isi, h_xat, wl_lam, s_rai, s_rai0, tri_next, tri_ret, tri_exc, s_tri, q_repr2, r_bl, r_non, r_int, r_str, r_emp, r_lst, r_tup, s_mat, mQ_none, mQ_some, c_cas, c_nomore, b_nil, b_cons, p_one, p_or, p_seq, p_lit, p_nm, p_wild, p_nil, p_cons, o_nil, o_cons, d_in_tup, d_notin_tup, wl_nil, wl_star, wl_non, wl_bl, wl_int, wl_str, wl_var, wl_raw, wl_gcon, wl_bin, wl_neg, wl_cmp, wl_chain, wl_and, wl_or, wl_not, wl_ite, wl_tup, wl_lst, wl_emp, wl_own, wl_dnw, wl_call, wl_blt, wl_isi, wl_mth, wl_get, wl_sub, wl_slc, wl_att, wl_met, wl_mk, wl_mks, wl_cm, wl_lc, wl_lc2, w_onone, w_osome, wt_val, wt_cmp, wt_chain, wt_not, wt_and, wt_or, wts_nil, wts_cons, wi_val, wi_rng1, wi_rng2, wi_zip, wi_enum, s_asg, s_par, s_put, s_fld, s_app, s_ext, s_ife, s_for, s_ret, s_retN, s_retS, s_expr, s_pass, s_brk, s_cont, ss_nil, ss_cons, thn_next, thn_brk, thn_cont, thn_ret, thn_exc, endN_ret, endN_exc, end_ret, end_next, end_exc, w_frz_non, w_frz_bl, w_frz_int, w_frz_str, w_frz_tup, w_frz_lst, w_frz_rol, w_frz_ins, w_frz_cls, w_frz_dic, wo_some, wo_none, bQ_bl, iQ_int, isi_non_int, isi_non_str, isi_non_tuple, isi_non_list, isi_non_dict, isi_non_bool, isi_non_own, isi_bl_int, isi_bl_str, isi_bl_tuple, isi_bl_list, isi_bl_dict, isi_bl_bool, isi_bl_own, isi_int_int, isi_int_str, isi_int_tuple, isi_int_list, isi_int_dict, isi_int_bool, isi_int_own, isi_str_int, isi_str_str, isi_str_tuple, isi_str_list, isi_str_dict, isi_str_bool, isi_str_own, isi_tup_int, isi_tup_str, isi_tup_tuple, isi_tup_list, isi_tup_dict, isi_tup_bool, isi_tup_own, isi_lst_int, isi_lst_str, isi_lst_tuple, isi_lst_list, isi_lst_dict, isi_lst_bool, isi_lst_own, isi_dic_int, isi_dic_str, isi_dic_tuple, isi_dic_list, isi_dic_dict, isi_dic_bool, isi_dic_own, isi_ins_int, isi_ins_str, isi_ins_tuple, isi_ins_list, isi_ins_dict, isi_ins_bool, isi_ins_own, List.map, Bool.and_true, Bool.true_and, Bool.and_self, eq_self, reduceCtorEq, imp_self, implies_true, forall_const, not_false_eq_true, false_implies, reduceIte, if_true, if_false, wo_ite, w_up, w_rt, w_bd, true_and, and_true, Bool.true_eq_false, Bool.false_eq_true, ite_true, ite_false, startR, List.replicate, List.length_cons, List.length_nil, List.append_nil, List.cons_append, List.nil_append, List.set_cons_zero, List.set_cons_succ, List.getElem?_cons_zero, List.getElem?_cons_succ, List.set, Nat.reduceAdd, Nat.reduceSub, Nat.reduceLeDiff, wipeR, D.nr, D.nrL, metN_ins, opN_ins, w_attI, attQ_some, attQ_none, List.take_length, eq_bl, eq_int, eq_tup, eq_lst, Bool.not_true, Bool.not_false, decide_true, decide_false, Bool.decide_eq_true, w_one1, wo_map, wo_bind, q_bin_non, q_cmp_non, q_sub_non, q_lk_non, q_len_non, q_cmpo_non, q_bin_bl, q_cmp_bl, q_sub_bl, q_lk_bl, q_len_bl, q_cmpo_bl, q_bin_int, q_cmp_int, q_sub_int, q_lk_int, q_len_int, q_cmpo_int, q_bin_str, q_cmp_str, q_sub_str, q_lk_str, q_len_str, q_cmpo_str, q_bin_tup, q_cmp_tup, q_sub_tup, q_lk_tup, q_len_tup, q_cmpo_tup, q_bin_lst, q_cmp_lst, q_sub_lst, q_lk_lst, q_len_lst, q_cmpo_lst, q_bin_dic, q_cmp_dic, q_sub_dic, q_lk_dic, q_len_dic, q_cmpo_dic, q_bin_ref, q_cmp_ref, q_sub_ref, q_len_ref, q_cmpo_ref, q_bin_cls, q_cmp_cls, q_sub_cls, q_lk_cls, q_len_cls, q_cmpo_cls, q_bin_rol, q_cmp_rol, q_sub_rol, q_lk_rol, q_len_rol, q_cmpo_rol, q_lk_ins, q_abs, q_int, q_max2, q_min2, q_all, q_repr, q_any, q_sum, q_sorted, q_tuple, q_list, q_o__lt__, q_o__le__, q_o__gt__, q_o__ge__, q_o__eq__, q_o__add__, q_o__or__, q_osub, d_add_int, d_sub_int, d_mul_int, d_div_int, d_mod_int, d_pow_int, d_add_str, d_add_lst, d_add_tup, d_mul_lst, d_lt_int, d_le_int, d_gt_int, d_ge_int, d_in_dic, d_eq, d_ne, d_is_bl, d_is_non, d_isnot_non, d_tru_bl, d_tru_int, d_tru_tup, d_tru_lst, d_tru_non, d_ix_tup, d_ix_lst, d_ix_rol, d_ix_dic, d_key_int, d_key_str, d_ln_tup, d_ln_lst, d_ln_rol, d_ln_dic, d_ln_str, d_any_lst, d_all_lst, d_sum_lst, d_sorted_lst, d_sorted_dic, d_tuple_lst, d_tuple_tup, d_list_lst, d_list_tup, d_list_dic, d_abs_int, d_int_int, d_int_bl, d_max_int, d_min_int, d_repr_bl, d_repr_lst, d_repr_tup, d_its_lst, d_its_tup, d_sq_lst, d_sq_tup, d_slc_lst, d_slc_tup, d_zip_ll, d_zip_lt, d_zip_tt, d_zip_tl, d_bnd_name, d_bnd_tup, d_bnds_nil, d_dic_y, d_bnds_cons, List.mem_cons, List.not_mem_nil, Nat.reduceEqDiff, or_false, false_or, or_true, true_or, g_0, g_1, g_2, x_0, x_1, x_2, x_3, f_Row_own_kinds, f_Row_own_places, f_Row_kinds, p_Row_kinds, f_Row_places, p_Row_places, f_Row_least, p_Row_least, f_Row_greatest, p_Row_greatest, f_Row_total, p_Row_total, f_Row_degrees, p_Row_degrees, m_Row_degree_at, m_Row_stretches, m_Row_raised, m_Row_joined, m_Row_require_index, m_Row___getitem__, m_Row___add__, m_Row___len__, m_Row___eq__, k_Row_of, $xs,*])
section
variable {μ : Store} {Q : D → Store → Prop} {X : Exc → Store → Prop} {ks ks' ps : Kd}
def isInt : D → Bool
  | .non => false | .bl _ => false | .str _ => false | .tup _ => false | .lst _ => false | .dic _ _ => false | .ins _ _ => false | .ref _ => false | .cls _ => false | .rol _ => false
  | .int _ => true
/-- a value of its own kind -/
def plainD : D → Bool
  | .non => true | .bl _ => true | .int _ => true | .str _ => true | .tup _ => true | .lst _ => true | .dic _ _ => true | .ins _ _ => true
  | .ref _ => false
  | .cls _ => false
  | .rol _ => false
theorem is_integer_w {d : D} (h : plainD d = true) : wp (t_is_integer [d]) μ Q X = Q (.bl (isInt d)) μ := by
  cases d
  all_goals first | (exact Bool.noConfusion h) | simp_all only [T_is_integer_cls, T_is_integer_cons, o_is_integer, b_is_integer, isInt]
theorem is_integer_int {i : Int} : wp (t_is_integer [.int i]) μ Q X = Q (.bl true) μ := is_integer_w rfl
theorem is_from_w {i a b : Int} : wp (t_is_from [.int i, .int a, .int b]) μ Q X = Q (.bl (decide (a ≤ i ∧ i ≤ b))) μ := by
  simp_all only [T_is_from_cls, T_is_from_cons, c_is_from__is_integer, o_is_from, b_is_from, is_integer_int]
  by_cases h : a ≤ i <;> simp [h]
theorem is_from_n {d : D} (h : plainD d = true) (hi : isInt d = false) {a b : Int} : wp (t_is_from [d, .int a, .int b]) μ Q X = Q (.bl false) μ := by
  cases d
  all_goals first | (exact Bool.noConfusion h) | (exact Bool.noConfusion hi) | simp_all only [T_is_from_cls, T_is_from_cons, c_is_from__is_integer, o_is_from, b_is_from, is_integer_w h, isInt]
theorem is_pair_w {p : Int × Int} : wp (t_is_pair [pD p]) μ Q X = Q (.bl true) μ := by
  simp_all only [T_is_pair_cls, T_is_pair_cons, o_is_pair, b_is_pair, pD, e_int]
  simp
theorem e_kT0 : eqD (.tup (ks.map pD)) (.tup []) = some (decide (ks = [])) := e_kT ks []
theorem pD_frz {p : Int × Int} : wp (frzD (pD p)) μ Q X = Q (pD p) μ := rfl
theorem pD_look {p : Int × Int} : look μ (pD p) = pD p := rfl
theorem bnd_pD {a b : Nat} {p : Int × Int} {ρ : Rho} : bindT (.tup [.name a, .name b]) (pD p) ρ = some ((ρ.set a (some (.int p.1))).set b (some (.int p.2))) := by
  simp only [pD, d_bnd_tup, d_bnds_cons, d_bnd_name, d_bnds_nil, Option.bind]
theorem sub_pD {T : Tab} {p : Int × Int} {j : D} : wp (subT T (pD p) j) μ Q X = wo (subD (pD p) (look μ j)) fun d => Q d μ := w_subT rfl
theorem pD_0 {p : Int × Int} : subD (pD p) (.int 0) = some (.int p.1) := rfl
theorem pD_1 {p : Int × Int} : subD (pD p) (.int 1) = some (.int p.2) := rfl
theorem z_size : 0 ≤ sizeLine := Nat.zero_le _
theorem sum_snd : ∀ ks : Kd, (ks.map (·.2)).sum = tot ks
  | [] => rfl
  | (d, c) :: r => by
    rw [List.map_cons, List.sum_cons, sum_snd r]
    rfl
theorem zip_map {α : Type} (f : α → D) (xs ys : List α) : zipD (xs.map f) (ys.map f) = (xs.zip ys).map fun p => .tup [f p.1, f p.2] := by
  unfold zipD
  rw [List.zipWith_map]
  induction xs generalizing ys with
  | nil => rfl
  | cons x r ih =>
    cases ys with
    | nil => rfl
    | cons y t =>
      rw [List.zipWith_cons_cons, List.zip_cons_cons, List.map_cons, ih]
theorem cut_1 {α : Type} (xs : List α) : cutD xs (some 1) none = xs.drop 1 := by
  unfold cutD HT.sIx
  cases xs with
  | nil => rfl
  | cons x r => simp
theorem asc_zip {ks : Kd} (h : Asc ks) : ∀ q ∈ ks.zip (ks.drop 1), q.1.1 < q.2.1 := by
  intro q hq
  induction ks with
  | nil => cases hq
  | cons p r ih =>
    cases r with
    | nil => cases hq
    | cons p' t =>
      have hq : q ∈ (p, p') :: (p' :: t).zip t := hq
      rcases List.mem_cons.mp hq with rfl | hq
      · exact h.head p' (List.mem_cons_self ..)
      · exact ih h.tail hq
theorem are_kinds_w (hg : Good ks) (hl : ks.length ≤ 1000000) : wp (t_are_kinds [.tup (ks.map pD)]) μ Q X = Q (.bl true) μ := by
  have hs : ks.length ≤ sizeLine := sz hl
  simp_all only [T_are_kinds_cls, T_are_kinds_cons, c_are_kinds__is_integer, c_are_kinds__is_pair, o_are_kinds, b_are_kinds, e_kT0, hg.ne, z_size]
  rw [lc_eq pD (fun p => .bl true) (cs := ks) (fun p hp => by simp_all only [T_are_kinds_cls, T_are_kinds_cons, c_are_kinds__is_integer, c_are_kinds__is_pair, o_are_kinds, b_are_kinds, pD_frz, is_pair_w])]
  simp_all only [T_are_kinds_cls, T_are_kinds_cons, c_are_kinds__is_integer, c_are_kinds__is_pair, o_are_kinds, b_are_kinds, bls_map, List.length_map, hs]
  have e1 : (ks.map fun _ => true).all id = true := by simp
  simp_all only [T_are_kinds_cls, T_are_kinds_cons, c_are_kinds__is_integer, c_are_kinds__is_pair, o_are_kinds, b_are_kinds, e1]
  rw [lc_eq pD (fun p => .bl true) (cs := ks) (fun p hp => by
    have := hg.pos p hp
    simp_all only [T_are_kinds_cls, T_are_kinds_cons, c_are_kinds__is_integer, c_are_kinds__is_pair, o_are_kinds, b_are_kinds, bnd_pD, is_integer_int, this])]
  simp_all only [T_are_kinds_cls, T_are_kinds_cons, c_are_kinds__is_integer, c_are_kinds__is_pair, o_are_kinds, b_are_kinds, bls_map, List.length_map, hs, e1]
  rw [lc_eq pD (fun p => .int p.1) (cs := ks) (fun p hp => by simp_all only [T_are_kinds_cls, T_are_kinds_cons, c_are_kinds__is_integer, c_are_kinds__is_pair, o_are_kinds, b_are_kinds, pD_frz, sub_pD, pD_0])]
  rw [lc_eq pD (fun p => .int p.2) (cs := ks) (fun p hp => by simp_all only [T_are_kinds_cls, T_are_kinds_cons, c_are_kinds__is_integer, c_are_kinds__is_pair, o_are_kinds, b_are_kinds, pD_frz, sub_pD, pD_1])]
  have hlow : ¬ ((ks.head hg.ne).1 < 0) := by
    have := hg.low _ (List.head_mem hg.ne)
    omega
  have hhigh : ¬ (tot ks ≤ (ks.getLast hg.ne).1) := by
    have := hg.high _ (List.getLast_mem hg.ne)
    omega
  have hmost : ¬ (1000000000000000000000000000000000000 < tot ks) := by
    have := hg.most
    omega
  have h0 : atI ks 0 = some (ks.head hg.ne) := by
    have hp : 0 < ks.length := List.length_pos_iff.mpr hg.ne
    rw [atI_ok (by omega) (by omega), List.head_eq_getElem]
    rfl
  simp_all only [T_are_kinds_cls, T_are_kinds_cons, c_are_kinds__is_integer, c_are_kinds__is_pair, o_are_kinds, b_are_kinds, ints_map, List.length_map, hs, atI_map, h0, atI_last hg.ne, sum_snd, Option.map, hlow, hhigh, hmost]
  have ez : zipD (ks.map fun p => D.int p.1) ((ks.drop 1).map fun p => D.int p.1) = (ks.zip (ks.drop 1)).map fun q => .tup [.int q.1.1, .int q.2.1] := zip_map (fun p : Int × Int => D.int p.1) ks (ks.drop 1)
  rw [cut_1, ← List.map_drop, ez]
  rw [lc_eq (fun q : (Int × Int) × (Int × Int) => .tup [.int q.1.1, .int q.2.1]) (fun q => .bl true) (fun q hq => by
    have := asc_zip hg.asc q hq
    simp_all only [T_are_kinds_cls, T_are_kinds_cons, c_are_kinds__is_integer, c_are_kinds__is_pair, o_are_kinds, b_are_kinds, this, Option.bind])]
  have e2 : ((ks.zip (ks.drop 1)).map fun _ => true).all id = true := by simp
  have e3 : (ks.zip (ks.drop 1)).length ≤ sizeLine := by
    rw [List.length_zip]
    omega
  simp_all only [T_are_kinds_cls, T_are_kinds_cons, c_are_kinds__is_integer, c_are_kinds__is_pair, o_are_kinds, b_are_kinds, bls_map, List.length_map, e3, e2]
/-- a row -/
abbrev rowD (ks : Kd) : D := .ins 0 [.tup (ks.map pD), .int (tot ks)]
theorem mk_row {T : Tab} (hT : T.cls = cls) (hc : callT T 3 = t_Row___init__) (hg : Good ks) (hl : ks.length < 1000000) : wp (mkT T 0 (ks.map pD)) μ Q X = Q (rowD ks) μ := by
  have hs : ks.length ≤ sizeLine := sz (by omega)
  refine w_of (w_eq (w_mkT (C := cls[0]) (by rw [hT]; rfl) ?_))
  show wp (callT T 3 _) _ _ _
  rw [hc, o_Row___init__ (by rw [List.length_map]; exact Nat.lt_of_lt_of_le hl (by decide))]
  have f0 : ∀ d : D, d.nr = true → fldC T_Row___init__ (μ ++ [.obj 0 []]) (.ref μ.length) "own_kinds" d = some (μ ++ [.obj 0 [d]]) := fun d hd => fldC_new (C := cls[0]) (fs := []) rfl (by decide +kernel) hd
  have f1 : ∀ d e : D, e.nr = true → fldC T_Row___init__ (μ ++ [.obj 0 [d]]) (.ref μ.length) "own_places" e = some (μ ++ [.obj 0 [d, e]]) := fun d e hd => fldC_new (C := cls[0]) (fs := [d]) rfl (show cls[0].fs.idxOf? ("own_places" : Str) = some 1 by decide +kernel) hd
  simp_all only [T_Row___init___cls, T_Row___init___cons, T_Row___init___xcs, c_Row___init____are_kinds, o_Row___init__, b_Row___init__, are_kinds_w hg (Nat.le_of_lt hl), f0 (.tup (ks.map pD)) (kT_nr ks)]
  rw [lc_eq pD (fun p => .int p.2) (cs := ks) (fun p hp => by simp_all only [T_Row___init___cls, T_Row___init___cons, T_Row___init___xcs, c_Row___init____are_kinds, o_Row___init__, b_Row___init__, bnd_pD])]
  simp_all only [T_Row___init___cls, T_Row___init___cons, T_Row___init___xcs, c_Row___init____are_kinds, o_Row___init__, b_Row___init__, ints_map, List.length_map, hs, sum_snd, f1 (.tup (ks.map pD)) (.int (tot ks)) rfl]
  refine ⟨[.tup (ks.map pD), .int (tot ks)], ?_, rfl, rfl⟩
  rw [List.length_append]
  exact List.take_of_length_le (by rw [List.length_append]; exact Nat.le_refl _)
theorem strF_len : ∀ (ks : Kd) (b : Int), (strF b ks).length = ks.length
  | [], _ => rfl
  | (_, c) :: r, b => by
    show (strF (b + c) r).length + 1 = r.length + 1
    rw [strF_len r]
theorem stretches_w {n : Int} (hl : ks.length ≤ 1000000) : wp (t_Row_stretches [.ins 0 [.tup (ks.map pD), .int n]]) μ Q X = Q (.lst ((strF 0 ks).map pD)) μ := by
  refine w_of (w_eq ?_)
  simp_all only [T_Row_stretches_cls, T_Row_stretches_cons, o_Row_stretches, b_Row_stretches, z_size]
  refine for_map pD (fun r ρ μ' => μ' = μ ∧ ∃ (done : Kd) (b : Int) (x3 x4 : Option D), ρ = [some (.ins 0 [.tup (ks.map pD), .int n]), some (.int b), some (.lst (done.map pD)), x3, x4] ∧ done ++ strF b r = strF 0 ks) ?_ ?_ _ _ _ ⟨rfl, [], 0, none, none, rfl, rfl⟩
  · rintro p r ρ μ' ⟨rfl, done, b, x3, x4, rfl, h⟩
    simp_all only [T_Row_stretches_cls, T_Row_stretches_cons, o_Row_stretches, b_Row_stretches, bnd_pD]
    have hd : done.length + (strF b (p :: r)).length = ks.length := by rw [← List.length_append, h, strF_len]
    have h1 : (strF b (p :: r)).length = r.length + 1 := strF_len _ _
    refine ⟨sz (by decide), sz (by rw [List.length_append, List.length_map]; show _ + 1 ≤ _; omega), done ++ [(b, b + p.2 - 1)], b + p.2, _, _, by rw [List.map_append]; rfl, ?_⟩
    rw [List.append_assoc]
    exact h
  · rintro ρ μ' ⟨rfl, done, b, x3, x4, rfl, h⟩
    have h : done ++ [] = strF 0 ks := h
    rw [List.append_nil] at h
    subst h
    simp_all only [T_Row_stretches_cls, T_Row_stretches_cons, o_Row_stretches, b_Row_stretches]
    exact nrL_map (fun _ => rfl) _
theorem degree_at_w {n i : Int} (hn : ks ≠ []) : wp (t_Row_degree_at [.ins 0 [.tup (ks.map pD), .int n], .int i]) μ Q X = Q (.int (dg ks i)) μ := by
  refine w_of (w_eq ?_)
  simp_all only [T_Row_degree_at_cls, T_Row_degree_at_cons, o_Row_degree_at, b_Row_degree_at]
  refine for_map pD (fun r ρ μ' => μ' = μ ∧ ∃ (b : Int) (x3 x4 : Option D), ρ = [some (.ins 0 [.tup (ks.map pD), .int n]), some (.int i), some (.int b), x3, x4] ∧ ∃ l, (r ≠ [] ∨ x3 = some (.int l)) ∧ dgF b r l i = dg ks i) ?_ ?_ _ _ _ ⟨rfl, 0, none, none, rfl, 0, .inl hn, rfl⟩
  · rintro p r ρ μ' ⟨rfl, b, x3, x4, rfl, l, _, h⟩
    simp_all only [T_Row_degree_at_cls, T_Row_degree_at_cons, o_Row_degree_at, b_Row_degree_at, bnd_pD]
    have h : (if i < b + p.2 then p.1 else dgF (b + p.2) r p.1 i) = dg ks i := h
    by_cases hi : i < b + p.2
    · rw [if_pos hi] at h
      simp only [hi, decide_true, if_true]
      simp_all only [T_Row_degree_at_cls, T_Row_degree_at_cons, o_Row_degree_at, b_Row_degree_at, h]
    · rw [if_neg hi] at h
      simp only [hi, decide_false, Bool.false_eq_true, if_false]
      exact ⟨_, _, _, rfl, _, .inr rfl, h⟩
  · rintro ρ μ' ⟨rfl, b, x3, x4, rfl, l, h1, h⟩
    have h1 : x3 = some (.int l) := h1.resolve_left fun q => q rfl
    subst h1
    have h : l = dg ks i := h
    subst h
    simp_all only [T_Row_degree_at_cls, T_Row_degree_at_cons, o_Row_degree_at, b_Row_degree_at]
end
/-! gathered -/
section
variable {μ : Store} {Q : D → Store → Prop} {X : Exc → Store → Prop} {ks ks' ps : Kd}
/-- a dict of ints -/
def dKeys (al : Kd) : List Key := al.map fun p => .inl p.1
def dVals (al : Kd) : List D := al.map fun p => .int p.2
theorem look_dct {ks : List Key} {xs : List D} : look (μ ++ [.dct ks xs]) (.ref μ.length) = .dic ks xs := by
  show (match (μ ++ [Cell.dct ks xs])[μ.length]? with | some (.own xs) => D.lst xs | some (.shr xs) => .lst xs | some (.frz d) => d | some (.dct ks xs) => .dic ks xs | _ => .ref μ.length) = _
  rw [List.getElem?_append_right (Nat.le_refl _), Nat.sub_self]
  rfl
theorem zip_al (al : Kd) : (dKeys al).zip (dVals al) = al.map fun p => ((.inl p.1 : Key), D.int p.2) := by
  unfold dKeys dVals
  rw [List.zip_map']
theorem dAt_al (al : Kd) (k : Int) : dAt (dKeys al) (dVals al) (.inl k) = (al.find? fun p => decide (p.1 = k)).map fun p => .int p.2 := by
  unfold dAt
  rw [zip_al]
  induction al with
  | nil => rfl
  | cons p r ih =>
    rw [List.map_cons, List.find?_cons, List.find?_cons]
    by_cases h : p.1 = k
    · rw [decide_eq_true h, decide_eq_true (show (.inl p.1 : Key) = .inl k by rw [h])]
      rfl
    · rw [decide_eq_false h, decide_eq_false (show ¬ (.inl p.1 : Key) = .inl k from fun q => h (Sum.inl.inj q))]
      exact ih
theorem dAt_val (al : Kd) (k : Int) : (dAt (dKeys al) (dVals al) (.inl k)).getD (.int 0) = .int (val al k) := by
  rw [dAt_al]
  unfold val
  cases al.find? fun p => decide (p.1 = k) <;> rfl
/-- d[k] = the old count and c more -/
theorem putC_al (al : Kd) (d c : Int) (nd : (al.map (·.1)).Nodup) (hl : al.length < sizeLine) : putC (μ ++ [.dct (dKeys al) (dVals al)]) (.ref μ.length) (.int d) (.int (val al d + c)) = some (μ ++ [.dct (dKeys (put al d c)) (dVals (put al d c))]) := by
  unfold putC
  dsimp only
  rw [if_pos (show (D.int (val al d + c)).nr = true from rfl), List.getElem?_append_right (Nat.le_refl _), Nat.sub_self]
  dsimp only [List.getElem?_cons_zero]
  show (if (dKeys al).length < sizeLine then _ else none) = _
  rw [if_pos (by unfold dKeys; rw [List.length_map]; exact hl), List.set_append_right _ _ (Nat.le_refl _), Nat.sub_self]
  show some (μ ++ [_]) = _
  congr 3
  have ea : ((dKeys al).zip (dVals al)).any (fun p => decide (p.1 = (.inl d : Key))) = al.any fun p => decide (p.1 = d) := by
    rw [zip_al, List.any_map]
    congr
    funext p
    show decide ((.inl p.1 : Key) = .inl d) = decide (p.1 = d)
    by_cases h : p.1 = d
    · rw [h]
      simp
    · simp [h]
  rw [ea]
  by_cases hh : (al.any fun p => decide (p.1 = d)) = true
  · rw [if_pos hh]
    have eq1 : put al d c = al.map fun p => if p.1 = d then (p.1, p.2 + c) else p := by
      unfold put
      rw [if_pos hh]
    rw [eq1]
    congr 1
    · unfold dKeys
      rw [List.map_map]
      refine List.map_congr_left fun p _ => ?_
      show (.inl p.1 : Key) = .inl (if p.1 = d then (p.1, p.2 + c) else p).1
      split <;> rfl
    · unfold dPutX
      rw [zip_al, List.map_map]
      unfold dVals
      rw [List.map_map]
      refine List.map_congr_left fun p hp => ?_
      show (if (.inl p.1 : Key) = .inl d then D.int (val al d + c) else .int p.2) = .int (if p.1 = d then (p.1, p.2 + c) else p).2
      by_cases h : p.1 = d
      · subst h
        rw [if_pos rfl, if_pos rfl, val_mem nd p hp]
      · rw [if_neg fun q => h (Sum.inl.inj q), if_neg h]
  · rw [if_neg hh]
    have eq1 : put al d c = al ++ [(d, c)] := by
      unfold put
      rw [if_neg hh]
    have hv : val al d = 0 := by
      unfold val
      have : (al.find? fun p => decide (p.1 = d)) = none := by
        rw [List.find?_eq_none]
        intro p hp q
        exact hh (List.any_eq_true.mpr ⟨p, hp, q⟩)
      rw [this]
      rfl
    rw [eq1, hv]
    unfold dKeys dVals
    rw [List.map_append, List.map_append]
    show Cell.dct _ (_ ++ [D.int (0 + c)]) = Cell.dct _ (_ ++ [D.int c])
    rw [Int.zero_add]
    rfl
theorem take_dct {c : Cell} : List.take (List.length μ) (μ ++ [c]) = μ := List.take_left
theorem gathered_k (hl : ps.length ≤ 1000000) (hk0 : (gathF [] ps).length < 64) : wp (t_gathered [.lst (ps.map pD)]) μ Q X = Q (.tup ((gath ps).map pD)) μ := by
  refine w_of (w_eq ?_)
  simp_all only [T_gathered_cls, T_gathered_cons, o_gathered, b_gathered]
  refine for_map pD (fun r ρ μ' => ∃ (al : Kd) (x2 x3 : Option D), ρ = [some (.lst (ps.map pD)), some (.ref μ.length), x2, x3] ∧ μ' = μ ++ [.dct (dKeys al) (dVals al)] ∧ (al.map (·.1)).Nodup ∧ gathF al r = gathF [] ps ∧ al.length + r.length ≤ ps.length) ?_ ?_ _ _ _ ⟨[], none, none, rfl, rfl, List.nodup_nil, rfl, by simp⟩
  · rintro p r ρ μ' ⟨al, x2, x3, rfl, rfl, nd, h, hle⟩
    rw [List.length_cons] at hle
    obtain ⟨d, c⟩ := p
    simp_all only [T_gathered_cls, T_gathered_cons, o_gathered, b_gathered, bnd_pD, look_dct, getQ, dAt_val]
    have hlt : al.length < sizeLine := sz (by omega)
    have hgF : gathF al ((d, c) :: r) = if 0 < c then gathF (put al d c) r else gathF al r := rfl
    by_cases hc : 0 < c
    · simp only [hc, decide_true, if_true]
      rw [putC_al al d c nd hlt, wo_some]
      rw [hgF, if_pos hc] at h
      refine ⟨_, _, _, rfl, rfl, put_nodup nd, h, ?_⟩
      have hl : (put al d c).length ≤ al.length + 1 := by
        unfold put
        split
        · rw [List.length_map]
          omega
        · rw [List.length_append]
          exact Nat.le_refl _
      omega
    · simp only [hc, decide_false, Bool.false_eq_true, if_false]
      rw [hgF, if_neg hc] at h
      exact ⟨_, _, _, rfl, rfl, nd, h, by omega⟩
  · rintro ρ μ' ⟨al, x2, x3, rfl, rfl, nd, h, hle⟩
    have h : al = gathF [] ps := h
    have hle : al.length ≤ ps.length := by
      have : al.length + 0 ≤ ps.length := hle
      omega
    have hk : (dKeys al).map kD = (al.map (·.1)).map D.int := by
      unfold dKeys
      rw [List.map_map, List.map_map]
      rfl
    have hs : (al.map (·.1)).length < 64 := by
      rw [List.length_map, h]
      exact hk0
    have hs2 : (sortI (al.map (·.1))).length ≤ sizeLine := by
      rw [(srt_perm _).length_eq]
      exact sz (by omega)
    simp_all only [T_gathered_cls, T_gathered_cons, o_gathered, b_gathered, look_dct, hk, ints_ints, hs]
    rw [lc_eq D.int (fun k => pD (k, val al k)) (fun k hk' => by
      have hm : k ∈ al.map (·.1) := (srt_perm _).mem_iff.mp hk'
      have hf : dAt (dKeys al) (dVals al) (.inl k) = some (.int (val al k)) := by
        rw [dAt_al]
        rw [List.mem_map] at hm
        obtain ⟨p, hp, rfl⟩ := hm
        have := val_mem nd p hp
        unfold val at this ⊢
        cases hf : al.find? fun q => decide (q.1 = p.1) with
        | none =>
          rw [List.find?_eq_none] at hf
          exact absurd (decide_eq_true rfl) (hf p hp)
        | some q => rfl
      simp_all only [T_gathered_cls, T_gathered_cons, o_gathered, b_gathered, look_dct, hf, pD]
      exact sz (by decide))]
    simp_all only [T_gathered_cls, T_gathered_cons, o_gathered, b_gathered, List.length_map, hs2, take_dct]
    unfold gath
    rw [← h, List.map_map]
    exact ⟨nrL_map (fun _ => rfl) _, rfl⟩
theorem gathered_w (hl : ps.length < 64) : wp (t_gathered [.lst (ps.map pD)]) μ Q X = Q (.tup ((gath ps).map pD)) μ :=
  gathered_k (by omega) (by have := (gathF_all (ps := ps) (al := []) List.nodup_nil (fun _ h => by cases h)).2.2.2; simp only [List.length_nil] at this; omega)
end
end Lw
namespace Rw
/-! which pairs make a good row -/
def posT : Kd → Int
  | [] => 0
  | (_, c) :: r => (if 0 < c then c else 0) + posT r
theorem posU_all : ∀ {ps : Kd} {x : Int}, (∀ p ∈ ps, 0 < p.2 → p.1 ≤ x) → posU ps x = posT ps
  | [], _, _ => rfl
  | (d, c) :: r, x, h => by
    have h1 : 0 < c → d ≤ x := h (d, c) (List.mem_cons_self ..)
    show (if d ≤ x ∧ 0 < c then c else 0) + posU r x = (if 0 < c then c else 0) + posT r
    rw [posU_all fun p hp => h p (List.mem_cons_of_mem _ hp)]
    by_cases hc : 0 < c
    · rw [if_pos hc, if_pos ⟨h1 hc, hc⟩]
    · rw [if_neg hc, if_neg fun q => hc q.2]
theorem gathF_keys : ∀ {ps al : Kd} {p : Int × Int}, p ∈ gathF al ps → (∃ q ∈ al, q.1 = p.1) ∨ ∃ q ∈ ps, 0 < q.2 ∧ q.1 = p.1
  | [], al, p, h => .inl ⟨p, h, rfl⟩
  | (d, c) :: r, al, p, h => by
    unfold gathF at h
    split at h
    · rename_i hc
      rcases gathF_keys h with ⟨q, hq, e⟩ | ⟨q, hq, e⟩
      · have hm : q.1 ∈ (put al d c).map (·.1) := List.mem_map.mpr ⟨q, hq, rfl⟩
        rw [put_keys] at hm
        split at hm
        · obtain ⟨q', hq', e'⟩ := List.mem_map.mp hm
          exact .inl ⟨q', hq', e'.trans e⟩
        · rcases List.mem_append.mp hm with hm | hm
          · obtain ⟨q', hq', e'⟩ := List.mem_map.mp hm
            exact .inl ⟨q', hq', e'.trans e⟩
          · rw [List.mem_singleton] at hm
            exact .inr ⟨(d, c), List.mem_cons_self .., hc, hm.symm.trans e⟩
      · exact .inr ⟨q, List.mem_cons_of_mem _ hq, e⟩
    · rcases gathF_keys h with h | ⟨q, hq, e⟩
      · exact .inl h
      · exact .inr ⟨q, List.mem_cons_of_mem _ hq, e⟩
theorem gath_keys {ps : Kd} {p : Int × Int} (h : p ∈ gath ps) : ∃ q ∈ ps, 0 < q.2 ∧ q.1 = p.1 := by
  rcases gathF_keys ((gath_perm ps).mem_iff.mp h) with ⟨q, hq, _⟩ | h
  · cases hq
  · exact h
theorem gath_tot (ps : Kd) : tot (gath ps) = posT ps := by
  obtain ⟨b, hb⟩ : ∃ b : Int, ∀ p ∈ ps, p.1 ≤ b := by
    induction ps with
    | nil => exact ⟨0, fun _ h => by cases h⟩
    | cons q r ih =>
      obtain ⟨b, hb⟩ := ih
      refine ⟨max b q.1, fun p hp => ?_⟩
      rcases List.mem_cons.mp hp with rfl | hp
      · omega
      · have := hb p hp
        omega
  rw [← upto_all (ks := gath ps) (x := b) fun p hp => ?_, gath_upto, posU_all fun p hp _ => hb p hp]
  obtain ⟨q, hq, _, e⟩ := gath_keys hp
  rw [← e]
  exact hb q hq
theorem gath_len (ps : Kd) : (gath ps).length ≤ ps.length := by
  rw [(gath_perm ps).length_eq]
  have := (gathF_all (ps := ps) (al := []) List.nodup_nil (fun _ h => by cases h)).2.2.2
  have : (gathF [] ps).length ≤ 0 + ps.length := this
  omega
theorem good_gath {ps : Kd} (hp : 0 < posT ps) (hm : posT ps ≤ 1000000000000000000000000000000000000) (h : ∀ p ∈ ps, 0 < p.2 → 0 ≤ p.1 ∧ p.1 < posT ps) : Good (gath ps) := by
  refine ⟨fun e => ?_, gath_pos ps, gath_asc ps, fun p q => ?_, fun p q => ?_, by rw [gath_tot]; exact hm⟩
  · have := gath_tot ps
    rw [e] at this
    have : (0 : Int) = posT ps := this
    omega
  · obtain ⟨q, hq, h0, e⟩ := gath_keys q
    rw [← e]
    exact (h q hq h0).1
  · obtain ⟨q, hq, h0, e⟩ := gath_keys q
    rw [← e, gath_tot]
    exact (h q hq h0).2
theorem posT_of : ∀ {ps : Kd}, (∀ p ∈ ps, 0 ≤ p.2) → posT ps = tot ps
  | [], _ => rfl
  | (d, c) :: r, h => by
    have hc : 0 ≤ c := h (d, c) (List.mem_cons_self ..)
    show (if 0 < c then c else 0) + posT r = c + tot r
    rw [posT_of fun p hp => h p (List.mem_cons_of_mem _ hp)]
    split <;> omega
/-! raised -/
theorem rsF_facts : ∀ {ks : Kd} {b i d : Int}, Pos ks → (∀ p ∈ rsF b i d ks, 0 ≤ p.2 ∧ ∃ q ∈ ks, p.1 = q.1 ∨ p.1 = max q.1 d) ∧ tot (rsF b i d ks) = tot ks ∧ (rsF b i d ks).length = 2 * ks.length
  | [], _, _, _, _ => ⟨fun _ h => (by cases h), rfl, rfl⟩
  | (o, c) :: r, b, i, d, hp => by
    have hc : 1 ≤ c := hp.head
    obtain ⟨h1, h2, h3⟩ := rsF_facts (b := b + c) (i := i) (d := d) hp.tail
    refine ⟨fun p hm => ?_, ?_, ?_⟩
    · have hm : p ∈ (o, min c (max 0 (i - b))) :: (max o d, c - min c (max 0 (i - b))) :: rsF (b + c) i d r := hm
      rcases List.mem_cons.mp hm with rfl | hm
      · exact ⟨by show 0 ≤ min c (max 0 (i - b)); omega, (o, c), List.mem_cons_self .., .inl rfl⟩
      · rcases List.mem_cons.mp hm with rfl | hm
        · exact ⟨by show 0 ≤ c - min c (max 0 (i - b)); omega, (o, c), List.mem_cons_self .., .inr rfl⟩
        · obtain ⟨q1, q, q2, q3⟩ := h1 p hm
          exact ⟨q1, q, List.mem_cons_of_mem _ q2, q3⟩
    · show min c (max 0 (i - b)) + (c - min c (max 0 (i - b)) + tot (rsF (b + c) i d r)) = c + tot r
      rw [h2]
      omega
    · show (rsF (b + c) i d r).length + 1 + 1 = 2 * (r.length + 1)
      rw [h3]
      omega
def rais (ks : Kd) (i d : Int) : Kd := gath (rsF 0 i d ks)
theorem rais_good {ks : Kd} {i d : Int} (hg : Good ks) (hd : 0 ≤ d) (hd2 : d < tot ks) : Good (rais ks i d) := by
  obtain ⟨h1, h2, _⟩ := rsF_facts (b := 0) (i := i) (d := d) hg.pos
  have ht : posT (rsF 0 i d ks) = tot ks := by rw [posT_of fun p hp => (h1 p hp).1, h2]
  have h0 : 0 < tot ks := by omega
  refine good_gath (by omega) (by rw [ht]; exact hg.most) fun p hp _ => ?_
  obtain ⟨_, q, hq, e⟩ := h1 p hp
  have := hg.low q hq
  have := hg.high q hq
  rw [ht]
  rcases e with e | e <;> rw [e] <;> omega
theorem rais_tot {ks : Kd} {i d : Int} (hg : Good ks) : tot (rais ks i d) = tot ks := by
  obtain ⟨h1, h2, _⟩ := rsF_facts (b := 0) (i := i) (d := d) hg.pos
  unfold rais
  rw [gath_tot, posT_of fun p hp => (h1 p hp).1, h2]
theorem rais_upto {ks : Kd} {i d : Int} (hg : Good ks) (hi : 0 ≤ i) (x : Int) : upto (rais ks i d) x = if d ≤ x then upto ks x else min i (upto ks x) := by
  obtain ⟨h1, h2, _⟩ := rsF_facts (b := 0) (i := i) (d := d) hg.pos
  unfold rais
  rw [gath_upto, posU_of fun p hp => (h1 p hp).1, rsF_upto x hg.pos hg.asc hi]
  simp
theorem rais_len {ks : Kd} {i d : Int} (hg : Good ks) : (rais ks i d).length ≤ 2 * ks.length := by
  have := (rsF_facts (b := 0) (i := i) (d := d) hg.pos).2.2
  unfold rais
  have := gath_len (rsF 0 i d ks)
  omega
/-! joined, side by side -/
def join (ks : Kd) (m : Int) : Kd := gath (ks.map (fun p => (p.1 + m, p.2)) ++ [(tot ks + m - 1, m)])
theorem tot_app : ∀ a b : Kd, tot (a ++ b) = tot a + tot b
  | [], b => by show tot b = 0 + tot b; omega
  | (d, c) :: r, b => by
    show c + tot (r ++ b) = c + tot r + tot b
    rw [tot_app r b]
    omega
theorem tot_mapd (f : Int → Int) : ∀ ks : Kd, tot (ks.map fun p => (f p.1, p.2)) = tot ks
  | [] => rfl
  | (d, c) :: r => by
    show c + tot (r.map _) = c + tot r
    rw [tot_mapd f r]
theorem join_facts {ks : Kd} {m : Int} (hg : Good ks) (hm : 0 ≤ m) : posT (ks.map (fun p => (p.1 + m, p.2)) ++ [(tot ks + m - 1, m)]) = tot ks + m := by
  rw [posT_of, tot_app, tot_mapd fun d => d + m]
  · show tot ks + (m + 0) = _
    omega
  · intro p hp
    rcases List.mem_append.mp hp with hp | hp
    · obtain ⟨q, hq, rfl⟩ := List.mem_map.mp hp
      have := hg.pos q hq
      show 0 ≤ q.2
      omega
    · rw [List.mem_singleton] at hp
      subst hp
      exact hm
theorem join_tot {ks : Kd} {m : Int} (hg : Good ks) (hm : 0 ≤ m) : tot (join ks m) = tot ks + m := by
  unfold join
  rw [gath_tot, join_facts hg hm]
theorem join_good {ks : Kd} {m : Int} (hg : Good ks) (hm : 0 ≤ m) (hb : tot ks + m ≤ 1000000000000000000000000000000000000) : Good (join ks m) := by
  have hne := hg.high _ (List.head_mem hg.ne)
  have hlo := hg.low _ (List.head_mem hg.ne)
  have h0 : 0 < tot ks := by omega
  refine good_gath (by rw [join_facts hg hm]; omega) (by rw [join_facts hg hm]; exact hb) fun p hp _ => ?_
  rw [join_facts hg hm]
  rcases List.mem_append.mp hp with hp | hp
  · obtain ⟨q, hq, rfl⟩ := List.mem_map.mp hp
    have := hg.low q hq
    have := hg.high q hq
    show 0 ≤ q.1 + m ∧ q.1 + m < _
    omega
  · rw [List.mem_singleton] at hp
    subst hp
    show 0 ≤ tot ks + m - 1 ∧ _
    omega
/-! listed -/
def lst1 (xs : List Int) : Kd := xs.map fun d => (d, 1)
theorem lst1_tot : ∀ xs : List Int, tot (lst1 xs) = xs.length
  | [] => rfl
  | x :: r => by
    show 1 + tot (lst1 r) = ((r.length + 1 : Nat) : Int)
    rw [lst1_tot r]
    omega
theorem lst1_good {xs : List Int} (hne : xs ≠ []) (h : ∀ x ∈ xs, 0 ≤ x ∧ x < xs.length) (hl : xs.length ≤ 1000000) : Good (gath (lst1 xs)) := by
  have hp : 0 < xs.length := List.length_pos_iff.mpr hne
  have ht : posT (lst1 xs) = xs.length := by
    rw [posT_of, lst1_tot]
    intro p hp
    obtain ⟨q, hq, rfl⟩ := List.mem_map.mp hp
    show (0 : Int) ≤ 1
    decide
  refine good_gath (by omega) (by omega) fun p hp _ => ?_
  rw [ht]
  obtain ⟨q, hq, rfl⟩ := List.mem_map.mp hp
  exact h q hq
theorem lst1_gtot (xs : List Int) : tot (gath (lst1 xs)) = xs.length := by
  rw [gath_tot, posT_of, lst1_tot]
  intro p hp
  obtain ⟨q, hq, rfl⟩ := List.mem_map.mp hp
  show (0 : Int) ≤ 1
  decide
/-- all degrees -/
def expd (ks : Kd) : List Int := ks.flatMap fun p => List.replicate p.2.toNat p.1
theorem expd_len : ∀ {ks : Kd}, Pos ks → ((expd ks).length : Int) = tot ks
  | [], _ => rfl
  | (d, c) :: r, hp => by
    have hc : 1 ≤ c := hp.head
    have ih := expd_len hp.tail
    show ((List.replicate c.toNat d ++ expd r).length : Int) = c + tot r
    rw [List.length_append, List.length_replicate]
    omega
theorem expd_get : ∀ {ks : Kd} {b l : Int} (j : Nat), Pos ks → j < (expd ks).length → (expd ks)[j]? = some (dgF b ks l (b + j))
  | [], _, _, j, _, h => by cases h
  | (d, c) :: r, b, l, j, hp, h => by
    have hc : 1 ≤ c := hp.head
    have h : j < (List.replicate c.toNat d ++ expd r).length := h
    rw [List.length_append, List.length_replicate] at h
    show (List.replicate c.toNat d ++ expd r)[j]? = some (if b + (j : Int) < b + c then d else dgF (b + c) r d (b + j))
    by_cases hj : j < c.toNat
    · rw [List.getElem?_append_left (by rw [List.length_replicate]; exact hj), List.getElem?_replicate, if_pos hj, if_pos (by omega)]
    · rw [List.getElem?_append_right (by rw [List.length_replicate]; omega), List.length_replicate, if_neg (by omega)]
      have ih := expd_get (b := b + c) (l := d) (j - c.toNat) hp.tail (by omega)
      rw [ih]
      congr 2
      omega
end Rw
namespace Lw
open PySem L2 Sg Rw
local macro_rules | `(tactic| simp_all only [$xs,*]) => `(tactic| simp only [w_non, w_bl, w_int, w_str, w_emp, w_var, w_raw, w_gcon, w_bin, w_neg, w_cmp, w_chain, w_and, w_or, w_not, w_ifx, w_tup, w_lst, w_own, w_dnw, w_call, w_isi, w_mth, w_get, w_sub, w_slc, w_att, w_met, w_mk, w_mks, w_cm, w_lc, w_lc2, w_blt, w_pop, w_ownl, w_cnt, w_cntI, isLst_lst, lstD_lst, w_sset, w_rev, w_fs, wf_nil, wf_cons, sQ_str, w_strf, w_strI, w_strO, d_fmt_int, d_fmt_str, d_notin_lst, d_in_lst, d_bnd_lst, wl_pop, wl_ownl, wl_cnt, wl_sset, wl_rev, wl_fs, wl_strf, wh_nil, wh_cons, h_con, h_att, h_rep, h_cat, h_isi, h_xat, wl_lam, s_rai, s_rai0, tri_next, tri_ret, tri_exc, s_tri, q_repr2, r_bl, r_non, r_int, r_str, r_emp, r_lst, r_tup, s_mat, mQ_none, mQ_some, c_cas, c_nomore, b_nil, b_cons, p_one, p_or, p_seq, p_lit, p_nm, p_wild, p_nil, p_cons, o_nil, o_cons, d_in_tup, d_notin_tup, wl_nil, wl_star, wl_non, wl_bl, wl_int, wl_str, wl_var, wl_raw, wl_gcon, wl_bin, wl_neg, wl_cmp, wl_chain, wl_and, wl_or, wl_not, wl_ite, wl_tup, wl_lst, wl_emp, wl_own, wl_dnw, wl_call, wl_blt, wl_isi, wl_mth, wl_get, wl_sub, wl_slc, wl_att, wl_met, wl_mk, wl_mks, wl_cm, wl_lc, wl_lc2, w_onone, w_osome, wt_val, wt_cmp, wt_chain, wt_not, wt_and, wt_or, wts_nil, wts_cons, wi_val, wi_rng1, wi_rng2, wi_zip, wi_enum, s_asg, s_par, s_put, s_fld, s_app, s_ext, s_ife, s_for, s_ret, s_retN, s_retS, s_expr, s_pass, s_brk, s_cont, ss_nil, ss_cons, thn_next, thn_brk, thn_cont, thn_ret, thn_exc, endN_ret, endN_exc, end_ret, end_next, end_exc, w_frz_non, w_frz_bl, w_frz_int, w_frz_str, w_frz_tup, w_frz_lst, w_frz_rol, w_frz_ins, w_frz_cls, w_frz_dic, wo_some, wo_none, bQ_bl, iQ_int, isi_non_int, isi_non_str, isi_non_tuple, isi_non_list, isi_non_dict, isi_non_bool, isi_non_own, isi_bl_int, isi_bl_str, isi_bl_tuple, isi_bl_list, isi_bl_dict, isi_bl_bool, isi_bl_own, isi_int_int, isi_int_str, isi_int_tuple, isi_int_list, isi_int_dict, isi_int_bool, isi_int_own, isi_str_int, isi_str_str, isi_str_tuple, isi_str_list, isi_str_dict, isi_str_bool, isi_str_own, isi_tup_int, isi_tup_str, isi_tup_tuple, isi_tup_list, isi_tup_dict, isi_tup_bool, isi_tup_own, isi_lst_int, isi_lst_str, isi_lst_tuple, isi_lst_list, isi_lst_dict, isi_lst_bool, isi_lst_own, isi_dic_int, isi_dic_str, isi_dic_tuple, isi_dic_list, isi_dic_dict, isi_dic_bool, isi_dic_own, isi_ins_int, isi_ins_str, isi_ins_tuple, isi_ins_list, isi_ins_dict, isi_ins_bool, isi_ins_own, List.map, Bool.and_true, Bool.true_and, Bool.and_self, eq_self, reduceCtorEq, imp_self, implies_true, forall_const, not_false_eq_true, false_implies, reduceIte, if_true, if_false, wo_ite, w_up, w_rt, w_bd, true_and, and_true, Bool.true_eq_false, Bool.false_eq_true, ite_true, ite_false, startR, List.replicate, List.length_cons, List.length_nil, List.append_nil, List.cons_append, List.nil_append, List.set_cons_zero, List.set_cons_succ, List.getElem?_cons_zero, List.getElem?_cons_succ, List.set, Nat.reduceAdd, Nat.reduceSub, Nat.reduceLeDiff, wipeR, D.nr, D.nrL, metN_ins, opN_ins, w_attI, attQ_some, attQ_none, List.take_length, eq_bl, eq_int, eq_tup, eq_lst, Bool.not_true, Bool.not_false, decide_true, decide_false, Bool.decide_eq_true, w_one1, wo_map, wo_bind, q_bin_non, q_cmp_non, q_sub_non, q_lk_non, q_len_non, q_cmpo_non, q_bin_bl, q_cmp_bl, q_sub_bl, q_lk_bl, q_len_bl, q_cmpo_bl, q_bin_int, q_cmp_int, q_sub_int, q_lk_int, q_len_int, q_cmpo_int, q_bin_str, q_cmp_str, q_sub_str, q_lk_str, q_len_str, q_cmpo_str, q_bin_tup, q_cmp_tup, q_sub_tup, q_lk_tup, q_len_tup, q_cmpo_tup, q_bin_lst, q_cmp_lst, q_sub_lst, q_lk_lst, q_len_lst, q_cmpo_lst, q_bin_dic, q_cmp_dic, q_sub_dic, q_lk_dic, q_len_dic, q_cmpo_dic, q_bin_ref, q_cmp_ref, q_sub_ref, q_len_ref, q_cmpo_ref, q_bin_cls, q_cmp_cls, q_sub_cls, q_lk_cls, q_len_cls, q_cmpo_cls, q_bin_rol, q_cmp_rol, q_sub_rol, q_lk_rol, q_len_rol, q_cmpo_rol, q_lk_ins, q_abs, q_int, q_max2, q_min2, q_all, q_repr, q_any, q_sum, q_sorted, q_tuple, q_list, q_o__lt__, q_o__le__, q_o__gt__, q_o__ge__, q_o__eq__, q_o__add__, q_o__or__, q_osub, d_add_int, d_sub_int, d_mul_int, d_div_int, d_mod_int, d_pow_int, d_add_str, d_add_lst, d_add_tup, d_mul_lst, d_lt_int, d_le_int, d_gt_int, d_ge_int, d_in_dic, d_eq, d_ne, d_is_bl, d_is_non, d_isnot_non, d_tru_bl, d_tru_int, d_tru_tup, d_tru_lst, d_tru_non, d_ix_tup, d_ix_lst, d_ix_rol, d_ix_dic, d_key_int, d_key_str, d_ln_tup, d_ln_lst, d_ln_rol, d_ln_dic, d_ln_str, d_any_lst, d_all_lst, d_sum_lst, d_sorted_lst, d_sorted_dic, d_tuple_lst, d_tuple_tup, d_list_lst, d_list_tup, d_list_dic, d_abs_int, d_int_int, d_int_bl, d_max_int, d_min_int, d_repr_bl, d_repr_lst, d_repr_tup, d_its_lst, d_its_tup, d_sq_lst, d_sq_tup, d_slc_lst, d_slc_tup, d_zip_ll, d_zip_lt, d_zip_tt, d_zip_tl, d_bnd_name, d_bnd_tup, d_bnds_nil, d_dic_y, d_bnds_cons, List.mem_cons, List.not_mem_nil, Nat.reduceEqDiff, or_false, false_or, or_true, true_or, g_0, g_1, g_2, x_0, x_1, x_2, x_3, f_Row_own_kinds, f_Row_own_places, f_Row_kinds, p_Row_kinds, f_Row_places, p_Row_places, f_Row_least, p_Row_least, f_Row_greatest, p_Row_greatest, f_Row_total, p_Row_total, f_Row_degrees, p_Row_degrees, m_Row_degree_at, m_Row_stretches, m_Row_raised, m_Row_joined, m_Row_require_index, m_Row___getitem__, m_Row___add__, m_Row___len__, m_Row___eq__, k_Row_of, $xs,*])
section
variable {μ : Store} {Q : D → Store → Prop} {X : Exc → Store → Prop} {ks ks' ps : Kd}
theorem Row_of_w (hg : Good ks) (hl : ks.length < 1000000) : wp (t_Row_of [.cls 0, .tup (ks.map pD)]) μ Q X = Q (rowD ks) μ := by
  simp_all only [T_Row_of_cls, T_Row_of_cons, T_Row_of_xcs, c_Row_of__Row___init__, o_Row_of, b_Row_of, mk_row T_Row_of_cls c_Row_of__Row___init__ hg hl]
  simp only [show D.nrL (ks.map pD) = true from kT_nr ks, Bool.and_self, true_and]
theorem gath_row (hg : Good (gath ps)) (hl : ps.length < 64) {Q : D → Store → Prop} : wp (t_gathered [.lst (ps.map pD)]) μ (fun d μ => wp (t_Row_of [.cls 0, d]) μ Q X) X = Q (rowD (gath ps)) μ := by
  rw [gathered_w hl, Row_of_w hg (by have := gath_len ps; omega)]
theorem kN (ks : Kd) : D.nrL (ks.map pD) = true := kT_nr ks
theorem e_kTm : eqD (.tup (ks.map pD)) (.tup (ks'.map pD)) = some (decide (ks = ks')) := e_kT ks ks'
theorem eq_w : wp (t_Row___eq__ [rowD ks, rowD ks']) μ Q X = Q (.bl (decide (ks = ks'))) μ := by
  simp_all only [T_Row___eq___cls, T_Row___eq___cons, o_Row___eq__, b_Row___eq__, e_kTm]
theorem require_index_w {i : Int} (h0 : 0 ≤ i) (h : i < tot ks) : wp (t_Row_require_index [rowD ks, .int i]) μ Q X = Q .non μ := by
  have : 0 ≤ i ∧ i ≤ tot ks - 1 := by omega
  simp_all only [T_Row_require_index_cls, T_Row_require_index_cons, T_Row_require_index_xcs, c_Row_require_index__is_from, o_Row_require_index, b_Row_require_index, is_from_w, this]
theorem getitem_w {i : Int} (hg : Good ks) (h0 : 0 ≤ i) (h : i < tot ks) : wp (t_Row___getitem__ [rowD ks, .int i]) μ Q X = Q (.int (dg ks i)) μ := by
  simp_all only [T_Row___getitem___cls, T_Row___getitem___cons, c_Row___getitem____Row_require_index, c_Row___getitem____Row_degree_at, o_Row___getitem__, b_Row___getitem__, require_index_w h0 h, degree_at_w hg.ne]
theorem e_tup0 (xs : List Int) : eqD (.tup (xs.map D.int)) (.tup []) = some (decide (xs = [])) := e_intsT xs []
theorem zip_str (ks : Kd) (b : Int) : zipD ((strF b ks).map pD) (ks.map pD) = ((strF b ks).zip ks).map fun q => .tup [pD q.1, pD q.2] := zip_map pD _ _
theorem bnd_pD2 {a b c d : Nat} {p q : Int × Int} {ρ : Rho} : bindT (.tup [.tup [.name a, .name b], .tup [.name c, .name d]]) (.tup [pD p, pD q]) ρ = some ((((ρ.set a (some (.int p.1))).set b (some (.int p.2))).set c (some (.int q.1))).set d (some (.int q.2))) := by
  simp only [d_bnd_tup, d_bnds_cons, bnd_pD, Option.bind, d_bnds_nil]
theorem isSome_app {xs : List D} : (appC (μ ++ [.own xs]) (.ref μ.length) []).isSome = true ↔ xs.length ≤ sizeLine := by
  constructor
  · intro h
    unfold appC at h
    dsimp only at h
    rw [List.getElem?_append_right (Nat.le_refl _), Nat.sub_self] at h
    dsimp only [List.getElem?_cons_zero] at h
    split at h
    · rename_i q
      exact q.2
    · cases h
  · intro h
    rw [own_app (ds := []) rfl h]
    rfl
theorem raised_k {i d : Int} (hg : Good ks) (hl : ks.length ≤ 100000) (hk0 : (gath (rsF 0 i d ks)).length < 64) (hi : 0 ≤ i) (hi2 : i < tot ks) (hd : 0 ≤ d) (hd2 : d < tot ks) : wp (t_Row_raised [rowD ks, .int i, .int d]) μ Q X = Q (rowD (rais ks i d)) μ := by
  have hb : 0 ≤ d ∧ d ≤ tot ks - 1 := by omega
  refine w_of (w_eq ?_)
  simp_all only [T_Row_raised_cls, T_Row_raised_cons, T_Row_raised_xcs, c_Row_raised__gathered, c_Row_raised__Row_of, c_Row_raised__Row_stretches, c_Row_raised__is_from, c_Row_raised__Row_require_index, o_Row_raised, b_Row_raised, require_index_w hi hi2, is_from_w, hb, stretches_w (ks := ks) (n := tot ks) (by omega), zip_str, z_size]
  refine for_map (fun q : (Int × Int) × (Int × Int) => .tup [pD q.1, pD q.2]) (fun zs ρ μ' => ∃ (r acc : Kd) (b : Int) (x4 x5 x6 x7 x8 : Option D), ρ = [some (rowD ks), some (.int i), some (.int d), some (.ref μ.length), x4, x5, x6, x7, x8] ∧ zs = (strF b r).zip r ∧ μ' = μ ++ [.own (acc.map pD)] ∧ acc ++ rsF b i d r = rsF 0 i d ks) ?_ ?_ _ _ _ ⟨ks, [], 0, none, none, none, none, none, rfl, rfl, rfl, rfl⟩
  · rintro q zs ρ μ' ⟨r, acc, b, x4, x5, x6, x7, x8, rfl, e, rfl, h⟩
    cases r with
    | nil => cases e
    | cons p r =>
      obtain ⟨o, c⟩ := p
      have e : q :: zs = ((b, b + c - 1), (o, c)) :: (strF (b + c) r).zip r := e
      obtain ⟨rfl, rfl⟩ := List.cons.inj e
      have hlen : acc.length + (rsF b i d ((o, c) :: r)).length = 2 * ks.length := by rw [← List.length_append, h, (rsF_facts hg.pos).2.2]
      have hpos : (rsF b i d ((o, c) :: r)).length = (rsF (b + c) i d r).length + 1 + 1 := rfl
      simp_all only [T_Row_raised_cls, T_Row_raised_cons, T_Row_raised_xcs, c_Row_raised__gathered, c_Row_raised__Row_of, c_Row_raised__Row_stretches, c_Row_raised__is_from, c_Row_raised__Row_require_index, o_Row_raised, b_Row_raised, bnd_pD2, bnd_pD, extQ]
      refine ⟨isSome_app.mpr (by rw [List.length_map]; exact sz (by omega)), sz (by decide), sz (by decide), sz (by decide), ?_⟩
      rw [own_app rfl (by rw [List.length_map]; exact sz (by show acc.length + 2 ≤ _; omega)), wo_some]
      refine ⟨r, acc ++ [(o, min c (max 0 (i - b))), (max o d, c - min c (max 0 (i - b)))], b + c, _, _, _, _, _, rfl, rfl, by rw [List.map_append]; rfl, ?_⟩
      rw [List.append_assoc]
      exact h
  · rintro ρ μ' ⟨r, acc, b, x4, x5, x6, x7, x8, rfl, e, rfl, h⟩
    have hr : r = [] := by
      cases r with
      | nil => rfl
      | cons p r =>
        obtain ⟨o, c⟩ := p
        cases e
    subst hr
    have h : acc ++ [] = rsF 0 i d ks := h
    rw [List.append_nil] at h
    subst h
    have hl2 : (rsF 0 i d ks).length ≤ 1000000 := by
      rw [(rsF_facts hg.pos).2.2]
      omega
    have hk1 : (gathF [] (rsF 0 i d ks)).length < 64 := by
      rw [← (gath_perm _).length_eq]
      exact hk0
    have hg2 : Good (gath (rsF 0 i d ks)) := rais_good hg hd hd2
    simp_all only [T_Row_raised_cls, T_Row_raised_cons, T_Row_raised_xcs, c_Row_raised__gathered, c_Row_raised__Row_of, c_Row_raised__Row_stretches, c_Row_raised__is_from, c_Row_raised__Row_require_index, o_Row_raised, b_Row_raised, own_frz, gathered_k hl2 hk1, Row_of_w hg2 (by have := gath_len (rsF 0 i d ks); omega), kN, take_dct]
    rfl
theorem raised_w {i d : Int} (hg : Good ks) (hl : 2 * ks.length < 64) (hi : 0 ≤ i) (hi2 : i < tot ks) (hd : 0 ≤ d) (hd2 : d < tot ks) : wp (t_Row_raised [rowD ks, .int i, .int d]) μ Q X = Q (rowD (rais ks i d)) μ :=
  raised_k hg (by omega) (by have := rais_len (i := i) (d := d) hg; unfold rais at this; omega) hi hi2 hd hd2
theorem joined_w {m : Int} (hg : Good ks) (hl : ks.length + 1 < 64) (hm : 0 ≤ m) (hm2 : m ≤ 1000000000000000000000000000000) (hb : tot ks + m ≤ 1000000000000000000000000000000000000) : wp (t_Row_joined [rowD ks, .int m]) μ Q X = Q (rowD (join ks m)) μ := by
  have h0 : 0 ≤ m ∧ m ≤ 1000000000000000000000000000000 := ⟨hm, hm2⟩
  refine w_of (w_eq ?_)
  simp_all only [T_Row_joined_cls, T_Row_joined_cons, T_Row_joined_xcs, c_Row_joined__gathered, c_Row_joined__Row_of, c_Row_joined__is_from, o_Row_joined, b_Row_joined, is_from_w, h0]
  rw [lc_eq pD (fun p => pD (p.1 + m, p.2)) (cs := ks) (fun p hp => by
    simp_all only [T_Row_joined_cls, T_Row_joined_cons, T_Row_joined_xcs, c_Row_joined__gathered, c_Row_joined__Row_of, c_Row_joined__is_from, o_Row_joined, b_Row_joined, bnd_pD, pD]
    exact sz (by decide))]
  have e : ks.map (fun p => pD (p.1 + m, p.2)) ++ [D.tup [.int (tot ks + m - 1), .int m]] = (ks.map (fun p => (p.1 + m, p.2)) ++ [(tot ks + m - 1, m)]).map pD := by
    rw [List.map_append, List.map_map]
    rfl
  have hl2 : (ks.map (fun p => (p.1 + m, p.2)) ++ [(tot ks + m - 1, m)]).length < 64 := by
    rw [List.length_append, List.length_map]
    exact hl
  have hg2 : Good (gath (ks.map (fun p => (p.1 + m, p.2)) ++ [(tot ks + m - 1, m)])) := join_good hg hm hb
  simp_all only [T_Row_joined_cls, T_Row_joined_cons, T_Row_joined_xcs, c_Row_joined__gathered, c_Row_joined__Row_of, c_Row_joined__is_from, o_Row_joined, b_Row_joined, e, gathered_w hl2, Row_of_w hg2 (by have := gath_len (ks.map (fun p => (p.1 + m, p.2)) ++ [(tot ks + m - 1, m)]); omega), kN, List.length_map]
  exact ⟨sz (by omega), sz (by decide), sz (by omega), rfl⟩
theorem map_rep (d : Int) : ∀ n : Nat, (List.range n).map (fun _ => D.int d) = (List.replicate n d).map D.int := by
  intro n
  rw [List.map_replicate]
  exact List.ext_getElem (by simp) fun i h1 h2 => by simp
theorem degrees_w (hg : Good ks) (hl : tot ks ≤ 64) (hk : ks.length ≤ 64) : wp (t_Row_degrees [rowD ks]) μ Q X = Q (.tup ((expd ks).map D.int)) μ := by
  refine w_of (w_eq ?_)
  have h0 : ¬ 64 < tot ks := by omega
  simp_all only [T_Row_degrees_cls, T_Row_degrees_cons, T_Row_degrees_xcs, o_Row_degrees, b_Row_degrees, h0]
  rw [lc_flat pD (fun p => (List.replicate p.2.toNat p.1).map D.int) (cs := ks) (fun p hp => by
    have h1 := hg.pos p hp
    have h2 : p.2 ≤ tot ks := by
      have key : ∀ {ks : Kd}, Pos ks → ∀ p ∈ ks, p.2 ≤ tot ks := by
        intro ks
        induction ks with
        | nil => exact fun _ p h => by cases h
        | cons q r ih =>
          intro hp p hm
          obtain ⟨d, c⟩ := q
          have := tot_nonneg hp.tail
          have hc : 1 ≤ c := hp.head
          show p.2 ≤ c + tot r
          rcases List.mem_cons.mp hm with rfl | hm
          · show c ≤ _
            omega
          · have := ih hp.tail p hm
            omega
      exact key hg.pos p hp
    simp_all only [T_Row_degrees_cls, T_Row_degrees_cons, T_Row_degrees_xcs, o_Row_degrees, b_Row_degrees, bnd_pD]
    refine ⟨rng_ok (by omega) (by omega), ?_⟩
    rw [rngD_eq, lc_eq (fun k : Nat => D.int (0 + (k : Int))) (fun _ => .int p.1) (fun k hk => by simp_all only [T_Row_degrees_cls, T_Row_degrees_cons, T_Row_degrees_xcs, o_Row_degrees, b_Row_degrees])]
    exact ⟨rfl, map_rep _ _⟩)]
  have e : (ks.flatMap fun p => (List.replicate p.2.toNat p.1).map D.int) = (expd ks).map D.int := by
    unfold expd
    rw [List.map_flatMap]
  have hs : (expd ks).length ≤ sizeLine := by
    have := expd_len hg.pos
    exact sz (by omega)
  simp_all only [T_Row_degrees_cls, T_Row_degrees_cons, T_Row_degrees_xcs, o_Row_degrees, b_Row_degrees, e, List.length_map, hs]
  exact nrL_map (fun _ => rfl) _
end
end Lw
namespace Lw
open PySem L2 Sg Rw
local macro_rules | `(tactic| simp_all only [$xs,*]) => `(tactic| simp only [w_non, w_bl, w_int, w_str, w_emp, w_var, w_raw, w_gcon, w_bin, w_neg, w_cmp, w_chain, w_and, w_or, w_not, w_ifx, w_tup, w_lst, w_own, w_dnw, w_call, w_isi, w_mth, w_get, w_sub, w_slc, w_att, w_met, w_mk, w_mks, w_cm, w_lc, w_lc2, w_blt, w_pop, w_ownl, w_cnt, w_cntI, isLst_lst, lstD_lst, w_sset, w_rev, w_fs, wf_nil, wf_cons, sQ_str, w_strf, w_strI, w_strO, d_fmt_int, d_fmt_str, d_notin_lst, d_in_lst, d_bnd_lst, wl_pop, wl_ownl, wl_cnt, wl_sset, wl_rev, wl_fs, wl_strf, wh_nil, wh_cons, h_con, h_att, h_rep, h_cat, h_isi, h_xat, wl_lam, s_rai, s_rai0, tri_next, tri_ret, tri_exc, s_tri, q_repr2, r_bl, r_non, r_int, r_str, r_emp, r_lst, r_tup, s_mat, mQ_none, mQ_some, c_cas, c_nomore, b_nil, b_cons, p_one, p_or, p_seq, p_lit, p_nm, p_wild, p_nil, p_cons, o_nil, o_cons, d_in_tup, d_notin_tup, wl_nil, wl_star, wl_non, wl_bl, wl_int, wl_str, wl_var, wl_raw, wl_gcon, wl_bin, wl_neg, wl_cmp, wl_chain, wl_and, wl_or, wl_not, wl_ite, wl_tup, wl_lst, wl_emp, wl_own, wl_dnw, wl_call, wl_blt, wl_isi, wl_mth, wl_get, wl_sub, wl_slc, wl_att, wl_met, wl_mk, wl_mks, wl_cm, wl_lc, wl_lc2, w_onone, w_osome, wt_val, wt_cmp, wt_chain, wt_not, wt_and, wt_or, wts_nil, wts_cons, wi_val, wi_rng1, wi_rng2, wi_zip, wi_enum, s_asg, s_par, s_put, s_fld, s_app, s_ext, s_ife, s_for, s_ret, s_retN, s_retS, s_expr, s_pass, s_brk, s_cont, ss_nil, ss_cons, thn_next, thn_brk, thn_cont, thn_ret, thn_exc, endN_ret, endN_exc, end_ret, end_next, end_exc, w_frz_non, w_frz_bl, w_frz_int, w_frz_str, w_frz_tup, w_frz_lst, w_frz_rol, w_frz_ins, w_frz_cls, w_frz_dic, wo_some, wo_none, bQ_bl, iQ_int, isi_non_int, isi_non_str, isi_non_tuple, isi_non_list, isi_non_dict, isi_non_bool, isi_non_own, isi_bl_int, isi_bl_str, isi_bl_tuple, isi_bl_list, isi_bl_dict, isi_bl_bool, isi_bl_own, isi_int_int, isi_int_str, isi_int_tuple, isi_int_list, isi_int_dict, isi_int_bool, isi_int_own, isi_str_int, isi_str_str, isi_str_tuple, isi_str_list, isi_str_dict, isi_str_bool, isi_str_own, isi_tup_int, isi_tup_str, isi_tup_tuple, isi_tup_list, isi_tup_dict, isi_tup_bool, isi_tup_own, isi_lst_int, isi_lst_str, isi_lst_tuple, isi_lst_list, isi_lst_dict, isi_lst_bool, isi_lst_own, isi_dic_int, isi_dic_str, isi_dic_tuple, isi_dic_list, isi_dic_dict, isi_dic_bool, isi_dic_own, isi_ins_int, isi_ins_str, isi_ins_tuple, isi_ins_list, isi_ins_dict, isi_ins_bool, isi_ins_own, List.map, Bool.and_true, Bool.true_and, Bool.and_self, eq_self, reduceCtorEq, imp_self, implies_true, forall_const, not_false_eq_true, false_implies, reduceIte, if_true, if_false, wo_ite, w_up, w_rt, w_bd, true_and, and_true, Bool.true_eq_false, Bool.false_eq_true, ite_true, ite_false, startR, List.replicate, List.length_cons, List.length_nil, List.append_nil, List.cons_append, List.nil_append, List.set_cons_zero, List.set_cons_succ, List.getElem?_cons_zero, List.getElem?_cons_succ, List.set, Nat.reduceAdd, Nat.reduceSub, Nat.reduceLeDiff, wipeR, D.nr, D.nrL, metN_ins, opN_ins, w_attI, attQ_some, attQ_none, List.take_length, eq_bl, eq_int, eq_tup, eq_lst, Bool.not_true, Bool.not_false, decide_true, decide_false, Bool.decide_eq_true, w_one1, wo_map, wo_bind, q_bin_non, q_cmp_non, q_sub_non, q_lk_non, q_len_non, q_cmpo_non, q_bin_bl, q_cmp_bl, q_sub_bl, q_lk_bl, q_len_bl, q_cmpo_bl, q_bin_int, q_cmp_int, q_sub_int, q_lk_int, q_len_int, q_cmpo_int, q_bin_str, q_cmp_str, q_sub_str, q_lk_str, q_len_str, q_cmpo_str, q_bin_tup, q_cmp_tup, q_sub_tup, q_lk_tup, q_len_tup, q_cmpo_tup, q_bin_lst, q_cmp_lst, q_sub_lst, q_lk_lst, q_len_lst, q_cmpo_lst, q_bin_dic, q_cmp_dic, q_sub_dic, q_lk_dic, q_len_dic, q_cmpo_dic, q_bin_ref, q_cmp_ref, q_sub_ref, q_len_ref, q_cmpo_ref, q_bin_cls, q_cmp_cls, q_sub_cls, q_lk_cls, q_len_cls, q_cmpo_cls, q_bin_rol, q_cmp_rol, q_sub_rol, q_lk_rol, q_len_rol, q_cmpo_rol, q_lk_ins, q_abs, q_int, q_max2, q_min2, q_all, q_repr, q_any, q_sum, q_sorted, q_tuple, q_list, q_o__lt__, q_o__le__, q_o__gt__, q_o__ge__, q_o__eq__, q_o__add__, q_o__or__, q_osub, d_add_int, d_sub_int, d_mul_int, d_div_int, d_mod_int, d_pow_int, d_add_str, d_add_lst, d_add_tup, d_mul_lst, d_lt_int, d_le_int, d_gt_int, d_ge_int, d_in_dic, d_eq, d_ne, d_is_bl, d_is_non, d_isnot_non, d_tru_bl, d_tru_int, d_tru_tup, d_tru_lst, d_tru_non, d_ix_tup, d_ix_lst, d_ix_rol, d_ix_dic, d_key_int, d_key_str, d_ln_tup, d_ln_lst, d_ln_rol, d_ln_dic, d_ln_str, d_any_lst, d_all_lst, d_sum_lst, d_sorted_lst, d_sorted_dic, d_tuple_lst, d_tuple_tup, d_list_lst, d_list_tup, d_list_dic, d_abs_int, d_int_int, d_int_bl, d_max_int, d_min_int, d_repr_bl, d_repr_lst, d_repr_tup, d_its_lst, d_its_tup, d_sq_lst, d_sq_tup, d_slc_lst, d_slc_tup, d_zip_ll, d_zip_lt, d_zip_tt, d_zip_tl, d_bnd_name, d_bnd_tup, d_bnds_nil, d_dic_y, d_bnds_cons, List.mem_cons, List.not_mem_nil, Nat.reduceEqDiff, or_false, false_or, or_true, true_or, g_0, g_1, g_2, x_0, x_1, x_2, x_3, f_Row_own_kinds, f_Row_own_places, f_Row_kinds, p_Row_kinds, f_Row_places, p_Row_places, f_Row_least, p_Row_least, f_Row_greatest, p_Row_greatest, f_Row_total, p_Row_total, f_Row_degrees, p_Row_degrees, m_Row_degree_at, m_Row_stretches, m_Row_raised, m_Row_joined, m_Row_require_index, m_Row___getitem__, m_Row___add__, m_Row___len__, m_Row___eq__, k_Row_of, $xs,*])
section
variable {μ : Store} {Q : D → Store → Prop} {X : Exc → Store → Prop} {ks ks' ps : Kd} {d : D}
theorem w_eqX {x : M D} {μ μ' : Store} {e : Exc} (h : wp x μ (fun _ _ => False) fun e1 μ1 => e1 = e ∧ μ1 = μ') : x μ = some (.error e, μ') := by
  rcases w_out h with ⟨_, _, _, z⟩ | ⟨e1, μ1, h1, rfl, rfl⟩
  · exact z.elim
  · exact h1
theorem lc_id {QL : List D → Store → Prop} {b : D → Option Rho} {f : Rho → M Bool} {e : Rho → M (List D)} (h : D → D) {ds : List D} (hx : ∀ c ∈ ds, wo (b c) fun ρ => wp (f ρ) μ (fun k μ' => k = true ∧ wp (e ρ) μ' (fun ys μ' => μ' = μ ∧ ys = [h c]) fun _ _ => False) fun _ _ => False) :
    wp (lcM b f e ds) μ QL X = QL (ds.map h) μ := by
  have q := lc_eq (QL := QL) (X := X) (cs := ds) (fun x => x) h hx
  rw [List.map_id'] at q
  exact q
theorem frz_p (h : plainD d = true) : wp (frzD d) μ Q X = Q d μ := by
  cases d <;> first | rfl | (exact Bool.noConfusion h)
theorem look_p (h : plainD d = true) : look μ d = d := by
  cases d <;> first | rfl | (exact Bool.noConfusion h)
/-- is_from by any value -/
def frm (a b : Int) : D → Bool
  | .int i => decide (a ≤ i ∧ i ≤ b)
  | _ => false
theorem is_from_g (h : plainD d = true) {a b : Int} : wp (t_is_from [d, .int a, .int b]) μ Q X = Q (.bl (frm a b d)) μ := by
  cases d
  case int i => exact is_from_w
  all_goals first | (exact Bool.noConfusion h) | (rw [is_from_n h rfl]; rfl)
theorem require_index_x (h : plainD d = true) (hn : d.nr = true) (hf : frm 0 (tot ks - 1) d = false) : wp (t_Row_require_index [rowD ks, d]) μ Q X = X ⟨2, [d]⟩ μ := by
  simp_all only [T_Row_require_index_cls, T_Row_require_index_cons, T_Row_require_index_xcs, c_Row_require_index__is_from, o_Row_require_index, b_Row_require_index, is_from_g h, hf, frz_p h, hn, Option.isSome]
theorem getitem_x (h : plainD d = true) (hn : d.nr = true) (hf : frm 0 (tot ks - 1) d = false) : wp (t_Row___getitem__ [rowD ks, d]) μ Q X = X ⟨2, [d]⟩ μ := by
  simp_all only [T_Row___getitem___cls, T_Row___getitem___cons, c_Row___getitem____Row_require_index, c_Row___getitem____Row_degree_at, o_Row___getitem__, b_Row___getitem__, require_index_x h hn hf, frz_p h, hn]
theorem raised_xi {e : D} (h : plainD d = true) (hn : d.nr = true) (hf : frm 0 (tot ks - 1) d = false) (he : plainD e = true) : wp (t_Row_raised [rowD ks, d, e]) μ Q X = X ⟨2, [d]⟩ μ := by
  simp_all only [T_Row_raised_cls, T_Row_raised_cons, T_Row_raised_xcs, c_Row_raised__gathered, c_Row_raised__Row_of, c_Row_raised__Row_stretches, c_Row_raised__is_from, c_Row_raised__Row_require_index, o_Row_raised, b_Row_raised, require_index_x h hn hf, frz_p h, hn]
theorem raised_xd {i : Int} (h : plainD d = true) (hn : d.nr = true) (hf : frm 0 (tot ks - 1) d = false) (h0 : 0 ≤ i) (h1 : i < tot ks) : wp (t_Row_raised [rowD ks, .int i, d]) μ Q X = X ⟨2, [d]⟩ μ := by
  simp_all only [T_Row_raised_cls, T_Row_raised_cons, T_Row_raised_xcs, c_Row_raised__gathered, c_Row_raised__Row_of, c_Row_raised__Row_stretches, c_Row_raised__is_from, c_Row_raised__Row_require_index, o_Row_raised, b_Row_raised, require_index_w h0 h1, is_from_g h, hf, frz_p h, hn, Option.isSome]
theorem joined_x (h : plainD d = true) (hn : d.nr = true) (hf : frm 0 1000000000000000000000000000000 d = false) : wp (t_Row_joined [rowD ks, d]) μ Q X = X ⟨2, [d]⟩ μ := by
  simp_all only [T_Row_joined_cls, T_Row_joined_cons, T_Row_joined_xcs, c_Row_joined__gathered, c_Row_joined__Row_of, c_Row_joined__is_from, o_Row_joined, b_Row_joined, is_from_g h, hf, frz_p h, hn, Option.isSome]
def noIns : D → Bool
  | .ins _ _ => false
  | _ => true
def noTupD : D → Bool
  | .tup _ => false
  | _ => true
theorem Row_of_n (h : plainD d = true) (hr : noTupD d = true) : wp (t_Row_of [.cls 0, d]) μ Q X = X ⟨1, []⟩ μ := by
  cases d <;> first | (exact Bool.noConfusion h) | (exact Bool.noConfusion hr) | simp_all only [T_Row_of_cls, T_Row_of_cons, T_Row_of_xcs, c_Row_of__Row___init__, o_Row_of, b_Row_of, Option.isNone]
/-- no kinds -/
abbrev KNo (ds : List D) : Prop := ∀ {μ : Store} {Q : D → Store → Prop} {X : Exc → Store → Prop}, wp (t_are_kinds [.tup ds]) μ Q X = Q (.bl false) μ
theorem mk_row_x {T : Tab} {ds : List D} (hT : T.cls = cls) (hc : callT T 3 = t_Row___init__) (hk : KNo ds) (hl : ds.length < 1000000) : wp (mkT T 0 ds) μ Q X = X ⟨1, []⟩ μ := by
  refine w_ofX (w_eqX (w_mkT (C := cls[0]) (by rw [hT]; rfl) ?_))
  show wp (callT T 3 _) _ _ _
  rw [hc, o_Row___init__ (Nat.lt_of_lt_of_le hl (by decide))]
  simp_all only [T_Row___init___cls, T_Row___init___cons, T_Row___init___xcs, c_Row___init____are_kinds, o_Row___init__, b_Row___init__, hk, Option.isNone]
  exact List.take_left
theorem Row_of_x {ds : List D} (hk : KNo ds) (hl : ds.length < 1000000) : wp (t_Row_of [.cls 0, .tup ds]) μ Q X = X ⟨1, []⟩ μ := by
  simp_all only [T_Row_of_cls, T_Row_of_cons, T_Row_of_xcs, c_Row_of__Row___init__, o_Row_of, b_Row_of, mk_row_x T_Row_of_cls c_Row_of__Row___init__ hk hl]
theorem kno_nil : KNo [] := by
  intro μ Q X
  have e : eqD (.tup []) (.tup []) = some true := by decide +kernel
  simp_all only [T_are_kinds_cls, T_are_kinds_cons, c_are_kinds__is_integer, c_are_kinds__is_pair, o_are_kinds, b_are_kinds, e, z_size]
/-- too many places -/
theorem kno_big (hp : Pos ks) (hne : ks ≠ []) (hb : 1000000000000000000000000000000000000 < tot ks) (hl : ks.length ≤ 1000000) : KNo (ks.map pD) := by
  intro μ Q X
  have hs : ks.length ≤ sizeLine := sz hl
  simp_all only [T_are_kinds_cls, T_are_kinds_cons, c_are_kinds__is_integer, c_are_kinds__is_pair, o_are_kinds, b_are_kinds, e_kT0, hne]
  rw [lc_eq pD (fun _ => .bl true) (cs := ks) (fun p hp => by simp_all only [T_are_kinds_cls, T_are_kinds_cons, c_are_kinds__is_integer, c_are_kinds__is_pair, o_are_kinds, b_are_kinds, is_pair_w, pD_frz])]
  have e1 : (ks.map fun _ => true).all id = true := by simp
  simp_all only [T_are_kinds_cls, T_are_kinds_cons, c_are_kinds__is_integer, c_are_kinds__is_pair, o_are_kinds, b_are_kinds, bls_map, List.length_map, hs, e1]
  rw [lc_eq pD (fun _ => .bl true) (cs := ks) (fun p hp' => by
    have := hp p hp'
    simp_all only [T_are_kinds_cls, T_are_kinds_cons, c_are_kinds__is_integer, c_are_kinds__is_pair, o_are_kinds, b_are_kinds, bnd_pD, is_integer_int, this])]
  simp_all only [T_are_kinds_cls, T_are_kinds_cons, c_are_kinds__is_integer, c_are_kinds__is_pair, o_are_kinds, b_are_kinds, bls_map, List.length_map, hs, e1]
  rw [lc_eq pD (fun p => .int p.1) (cs := ks) (fun p hp => by simp_all only [T_are_kinds_cls, T_are_kinds_cons, c_are_kinds__is_integer, c_are_kinds__is_pair, o_are_kinds, b_are_kinds, sub_pD, pD_0, pD_frz, pD_look])]
  simp_all only [T_are_kinds_cls, T_are_kinds_cons, c_are_kinds__is_integer, c_are_kinds__is_pair, o_are_kinds, b_are_kinds, List.length_map, hs]
  rw [lc_eq pD (fun p => .int p.2) (cs := ks) (fun p hp => by simp_all only [T_are_kinds_cls, T_are_kinds_cons, c_are_kinds__is_integer, c_are_kinds__is_pair, o_are_kinds, b_are_kinds, sub_pD, pD_1, pD_frz, pD_look])]
  have hk : 0 < ks.length := List.length_pos_iff.mpr hne
  have q1 : atI (ks.map fun p => D.int p.1) 0 = some (D.int (ks[0].1)) := by rw [atI_ok (by omega) (by simp; omega)]; simp
  have q2 : atI (ks.map fun p => D.int p.1) (-1) = some (D.int (ks.getLast hne).1) := by rw [atI_last (by simp [hne])]; simp
  simp_all only [T_are_kinds_cls, T_are_kinds_cons, c_are_kinds__is_integer, c_are_kinds__is_pair, o_are_kinds, b_are_kinds, ints_map, List.length_map, hs, sum_snd, q1, q2, hb]
  by_cases a1 : ks[0].1 < 0
  · simp_all only [T_are_kinds_cls, T_are_kinds_cons, c_are_kinds__is_integer, c_are_kinds__is_pair, o_are_kinds, b_are_kinds, a1, z_size]
  · by_cases a2 : tot ks ≤ (ks.getLast hne).1
    · simp_all only [T_are_kinds_cls, T_are_kinds_cons, c_are_kinds__is_integer, c_are_kinds__is_pair, o_are_kinds, b_are_kinds, a1, a2, z_size]
    · simp_all only [T_are_kinds_cls, T_are_kinds_cons, c_are_kinds__is_integer, c_are_kinds__is_pair, o_are_kinds, b_are_kinds, a1, a2, z_size]
/-- too many places -/
theorem joined_b {m : Int} (hg : Good ks) (hl : ks.length + 1 < 64) (hm : 0 ≤ m) (hm2 : m ≤ 1000000000000000000000000000000) (hb : 1000000000000000000000000000000000000 < tot ks + m) : wp (t_Row_joined [rowD ks, .int m]) μ Q X = X ⟨1, []⟩ μ := by
  have hs : ks.length ≤ sizeLine := sz (by omega)
  have ht := join_tot hg hm
  have hle : (ks.map (fun p => (p.1 + m, p.2)) ++ [(tot ks + m - 1, m)]).length = ks.length + 1 := by simp
  have hk := gath_len (ks.map (fun p => (p.1 + m, p.2)) ++ [(tot ks + m - 1, m)])
  have hpos : Rw.Pos (join ks m) := gath_pos _
  have hne : join ks m ≠ [] := fun e => by
    rw [e] at ht
    have : (0 : Int) = tot ks + m := ht
    omega
  have hjl : (join ks m).length < 1000000 := by
    unfold join
    omega
  refine w_ofX (w_eqX ?_)
  simp_all only [T_Row_joined_cls, T_Row_joined_cons, T_Row_joined_xcs, c_Row_joined__gathered, c_Row_joined__Row_of, c_Row_joined__is_from, o_Row_joined, b_Row_joined, is_from_w, hm, hm2]
  rw [lc_eq pD (fun p => pD (p.1 + m, p.2)) (cs := ks) (fun p hp => by
    simp_all only [T_Row_joined_cls, T_Row_joined_cons, T_Row_joined_xcs, c_Row_joined__gathered, c_Row_joined__Row_of, c_Row_joined__is_from, o_Row_joined, b_Row_joined, bnd_pD, pD]
    exact sz (by decide))]
  have e1 : ks.map (fun p => pD (p.1 + m, p.2)) ++ [.tup [.int (tot ks + m - 1), .int m]] = (ks.map (fun p => (p.1 + m, p.2)) ++ [(tot ks + m - 1, m)]).map pD := by
    rw [List.map_append, List.map_map]
    rfl
  simp_all only [T_Row_joined_cls, T_Row_joined_cons, T_Row_joined_xcs, c_Row_joined__gathered, c_Row_joined__Row_of, c_Row_joined__is_from, o_Row_joined, b_Row_joined, List.length_map, hs, e1, gathered_w (ps := ks.map (fun p => (p.1 + m, p.2)) ++ [(tot ks + m - 1, m)]) (by omega)]
  rw [show gath (ks.map (fun p => (p.1 + m, p.2)) ++ [(tot ks + m - 1, m)]) = join ks m from rfl]
  simp_all only [T_Row_joined_cls, T_Row_joined_cons, T_Row_joined_xcs, c_Row_joined__gathered, c_Row_joined__Row_of, c_Row_joined__is_from, o_Row_joined, b_Row_joined, Row_of_x (kno_big hpos hne (by rw [ht]; exact hb) (Nat.le_of_lt hjl)) (by rw [List.length_map]; exact hjl)]
  exact ⟨sz (by decide), sz (by rw [List.length_append, List.length_map]; show ks.length + 1 ≤ _; omega)⟩
theorem add_b (hl : (ks ++ ks').length < 64) (hb : 1000000000000000000000000000000000000 < tot (gath (ks ++ ks'))) : wp (t_Row___add__ [rowD ks, rowD ks']) μ Q X = X ⟨1, []⟩ μ := by
  have hk := gath_len (ks ++ ks')
  have hne : gath (ks ++ ks') ≠ [] := fun e => by
    rw [e] at hb
    have : (1000000000000000000000000000000000000 : Int) < 0 := hb
    omega
  refine w_ofX (w_eqX ?_)
  have e : ks.map pD ++ (ks'.map pD) = (ks ++ ks').map pD := by rw [List.map_append]
  simp_all only [T_Row___add___cls, T_Row___add___cons, T_Row___add___xcs, c_Row___add____gathered, c_Row___add____Row_of, o_Row___add__, b_Row___add__, e, gathered_w hl, Row_of_x (kno_big (gath_pos _) hne hb (show (gath (ks ++ ks')).length ≤ 1000000 by omega)) (by rw [List.length_map]; omega), kN, List.length_map]
  exact sz (by omega)
end
end Lw
/-! Rl: rows and lists of degrees. -/
namespace Rw
open Sg
/-- how many are at most x -/
def lec : List Int → Int → Int
  | [], _ => 0
  | y :: r, x => (if y ≤ x then 1 else 0) + lec r x
def Srt (xs : List Int) : Prop := xs.Pairwise (· ≤ ·)
/-- the kinds of a list -/
abbrev knd (xs : List Int) : Kd := gath (lst1 xs)
theorem upto_lst1 : ∀ (xs : List Int) (x : Int), upto (lst1 xs) x = lec xs x
  | [], _ => rfl
  | y :: r, x => by
    show (if y ≤ x then 1 else 0) + upto (lst1 r) x = _
    rw [upto_lst1 r]
    rfl
theorem lst1_one {xs : List Int} : ∀ p ∈ lst1 xs, 0 ≤ p.2 := fun p hp => by
  obtain ⟨q, hq, rfl⟩ := List.mem_map.mp hp
  show (0 : Int) ≤ 1
  decide
theorem knd_pos (xs : List Int) : Pos (knd xs) := gath_pos _
theorem knd_asc (xs : List Int) : Asc (knd xs) := gath_asc _
theorem knd_upto (xs : List Int) (x : Int) : upto (knd xs) x = lec xs x := by
  rw [gath_upto, posU_of lst1_one, upto_lst1]
theorem knd_eq {xs : List Int} {ks : Kd} (hp : Pos ks) (ha : Asc ks) (h : ∀ x, upto ks x = lec xs x) : ks = knd xs :=
  upto_inj hp ha (gath_pos _) (gath_asc _) fun x => by rw [h, knd_upto]
theorem lec_perm {xs ys : List Int} (h : xs.Perm ys) (x : Int) : lec xs x = lec ys x := by
  induction h with
  | nil => rfl
  | cons y _ ih => show (if y ≤ x then 1 else 0) + _ = (if y ≤ x then 1 else 0) + _; rw [ih]
  | swap y z l =>
    show (if z ≤ x then 1 else 0) + ((if y ≤ x then 1 else 0) + lec l x) = (if y ≤ x then 1 else 0) + ((if z ≤ x then 1 else 0) + lec l x)
    omega
  | trans _ _ h1 h2 => rw [h1, h2]
theorem knd_perm {xs ys : List Int} (h : xs.Perm ys) : knd xs = knd ys := knd_eq (gath_pos _) (gath_asc _) fun x => by rw [knd_upto, lec_perm h]
theorem lec_app : ∀ (xs ys : List Int) (x : Int), lec (xs ++ ys) x = lec xs x + lec ys x
  | [], ys, x => by show lec ys x = 0 + lec ys x; omega
  | y :: r, ys, x => by
    show (if y ≤ x then 1 else 0) + lec (r ++ ys) x = (if y ≤ x then 1 else 0) + lec r x + lec ys x
    rw [lec_app r]
    omega
theorem lec_nonneg : ∀ (xs : List Int) (x : Int), 0 ≤ lec xs x
  | [], _ => Int.le_refl _
  | y :: r, x => by
    have := lec_nonneg r x
    show 0 ≤ (if y ≤ x then 1 else 0) + lec r x
    split <;> omega
theorem lec_le : ∀ (xs : List Int) (x : Int), lec xs x ≤ xs.length
  | [], _ => Int.le_refl _
  | y :: r, x => by
    have := lec_le r x
    show (if y ≤ x then 1 else 0) + lec r x ≤ ((r.length + 1 : Nat) : Int)
    split <;> omega
theorem lec_zero : ∀ {xs : List Int} {x : Int}, (∀ y ∈ xs, x < y) → lec xs x = 0
  | [], _, _ => rfl
  | y :: r, x, h => by
    show (if y ≤ x then 1 else 0) + lec r x = 0
    rw [lec_zero fun z hz => h z (List.mem_cons_of_mem _ hz), if_neg (by have := h y (List.mem_cons_self ..); omega)]
    rfl
theorem Srt.tail {y : Int} {r : List Int} (h : Srt (y :: r)) : Srt r := (List.pairwise_cons.mp h).2
theorem Srt.head {y : Int} {r : List Int} (h : Srt (y :: r)) : ∀ z ∈ r, y ≤ z := (List.pairwise_cons.mp h).1
theorem lec_take : ∀ {xs : List Int} (i : Nat) (x : Int), Srt xs → lec (xs.take i) x = min (i : Int) (lec xs x)
  | [], i, x, _ => by
    rw [List.take_nil]
    show (0 : Int) = min (i : Int) 0
    omega
  | y :: r, 0, x, _ => by
    have := lec_nonneg (y :: r) x
    show (0 : Int) = min ((0 : Nat) : Int) (lec (y :: r) x)
    omega
  | y :: r, i + 1, x, h => by
    have ih := lec_take i x h.tail
    show (if y ≤ x then 1 else 0) + lec (r.take i) x = min ((i + 1 : Nat) : Int) ((if y ≤ x then 1 else 0) + lec r x)
    rw [ih]
    by_cases hy : y ≤ x
    · rw [if_pos hy]
      omega
    · have hz : lec r x = 0 := lec_zero fun z hz => by have := h.head z hz; omega
      rw [if_neg hy, hz]
      omega
theorem lec_lt : ∀ {xs : List Int} {j : Nat} (hj : j < xs.length) (x : Int), Srt xs → ((j : Int) < lec xs x ↔ xs[j] ≤ x)
  | y :: r, 0, hj, x, h => by
    show ((0 : Nat) : Int) < (if y ≤ x then 1 else 0) + lec r x ↔ y ≤ x
    have := lec_nonneg r x
    by_cases hy : y ≤ x
    · simp only [hy, if_true, iff_true]
      omega
    · have hz : lec r x = 0 := lec_zero fun z hz => by have := h.head z hz; omega
      simp only [hy, if_false, iff_false, hz]
      omega
  | y :: r, j + 1, hj, x, h => by
    have hj' : j < r.length := by simpa using hj
    have ih := lec_lt hj' x h.tail
    show (((j + 1 : Nat)) : Int) < (if y ≤ x then 1 else 0) + lec r x ↔ r[j] ≤ x
    rw [← ih]
    by_cases hy : y ≤ x
    · rw [if_pos hy]
      omega
    · have hz : lec r x = 0 := lec_zero fun z hz => by have := h.head z hz; omega
      rw [if_neg hy, hz]
      omega
theorem knd_tot (xs : List Int) : tot (knd xs) = xs.length := lst1_gtot xs
theorem dg_knd {xs : List Int} {j : Nat} (hj : j < xs.length) (h : Srt xs) : dg (knd xs) j = xs[j] := by
  have ht := knd_tot xs
  have q : ∀ x, dg (knd xs) j ≤ x ↔ xs[j] ≤ x := fun x => (dg_le (x := x) (knd_pos xs) (knd_asc xs) (i := (j : Int)) (by omega) (by omega)).trans (by rw [knd_upto]; exact lec_lt hj x h)
  have a := (q (dg (knd xs) j)).mp (Int.le_refl _)
  have b := (q xs[j]).mpr (Int.le_refl _)
  omega
theorem expd_knd {xs : List Int} (h : Srt xs) : expd (knd xs) = xs := by
  have hl : (expd (knd xs)).length = xs.length := by
    have := expd_len (knd_pos xs)
    have := knd_tot xs
    omega
  refine List.ext_getElem hl fun j h1 h2 => ?_
  have e := expd_get (b := 0) (l := 0) j (knd_pos xs) h1
  rw [Int.zero_add, List.getElem?_eq_getElem h1] at e
  have e2 : dgF 0 (knd xs) 0 (j : Int) = xs[j] := dg_knd h2 h
  rw [← e2]
  exact Option.some.inj e
theorem expd_sum : ∀ {ks : Kd}, Pos ks → (ks.map fun p => p.1 * p.2).sum = (expd ks).sum
  | [], _ => rfl
  | (d, c) :: r, hp => by
    have hc : 1 ≤ c := hp.head
    show d * c + (r.map fun p => p.1 * p.2).sum = (List.replicate c.toNat d ++ expd r).sum
    rw [expd_sum hp.tail, List.sum_append]
    congr 1
    have : ∀ n : Nat, (List.replicate n d).sum = d * n := fun n => by
      induction n with
      | zero => simp
      | succ n ih => rw [List.replicate_succ, List.sum_cons, ih]; rw [show ((n + 1 : Nat) : Int) = n + 1 from rfl, Int.mul_add]; omega
    rw [this]
    congr 1
    omega
theorem expd_head {d c : Int} {r : Kd} (hp : Pos ((d, c) :: r)) : (expd ((d, c) :: r))[0]? = some d := by
  have hc : 1 ≤ c := hp.head
  show (List.replicate c.toNat d ++ expd r)[0]? = _
  rw [List.getElem?_append_left (by rw [List.length_replicate]; omega), List.getElem?_replicate, if_pos (by omega)]
theorem expd_last : ∀ {ks : Kd} (hn : ks ≠ []), Pos ks → (expd ks).getLast? = some (ks.getLast hn).1
  | [(d, c)], _, hp => by
    have hc : 1 ≤ c := hp.head
    show (List.replicate c.toNat d ++ []).getLast? = some d
    rw [List.append_nil, List.getLast?_replicate, if_neg (by omega)]
  | p :: q :: r, _, hp => by
    have ih := expd_last (ks := q :: r) (by simp) hp.tail
    show (List.replicate p.2.toNat p.1 ++ expd (q :: r)).getLast? = _
    rw [List.getLast?_append, ih]
    rfl
/-! kinds by counting -/
theorem insU_mem {i z : Int} : ∀ {l : List Int}, z ∈ insU i l ↔ z = i ∨ z ∈ l
  | [] => by simp [insU]
  | j :: r => by
    unfold insU
    split
    · simp
    · split
      · rename_i h
        subst h
        simp
      · rw [List.mem_cons, insU_mem, List.mem_cons]
        constructor
        · rintro (h | h | h)
          · exact .inr (.inl h)
          · exact .inl h
          · exact .inr (.inr h)
        · rintro (h | h | h)
          · exact .inr (.inl h)
          · exact .inl h
          · exact .inr (.inr h)
theorem insU_asc {i : Int} : ∀ {l : List Int}, l.Pairwise (· < ·) → (insU i l).Pairwise (· < ·)
  | [], _ => by simp [insU]
  | j :: r, h => by
    obtain ⟨h1, h2⟩ := List.pairwise_cons.mp h
    unfold insU
    split
    · rename_i hij
      refine List.pairwise_cons.mpr ⟨fun z hz => ?_, h⟩
      rcases List.mem_cons.mp hz with rfl | hz
      · exact hij
      · have := h1 z hz
        omega
    · split
      · exact h
      · refine List.pairwise_cons.mpr ⟨fun z hz => ?_, insU_asc h2⟩
        rcases insU_mem.mp hz with rfl | hz
        · omega
        · exact h1 z hz
theorem srtU_asc : ∀ l : List Int, (srtU l).Pairwise (· < ·)
  | [] => .nil
  | _ :: r => insU_asc (srtU_asc r)
theorem srtU_mem {z : Int} : ∀ {l : List Int}, z ∈ srtU l ↔ z ∈ l
  | [] => Iff.rfl
  | y :: r => by
    show z ∈ insU y (srtU r) ↔ _
    rw [insU_mem, srtU_mem, List.mem_cons]
/-- what a count tells -/
def kof (xs : List Int) : Kd := (srtU xs).map fun o => (o, (xs.count o : Int))
theorem upto_bump {y x : Int} {f : Int → Int} : ∀ {U : List Int}, U.Nodup → y ∈ U → upto (U.map fun o => (o, f o + if y = o then 1 else 0)) x = upto (U.map fun o => (o, f o)) x + if y ≤ x then 1 else 0
  | u :: r, hn, hy => by
    obtain ⟨h1, h2⟩ := List.nodup_cons.mp hn
    show (if u ≤ x then f u + (if y = u then 1 else 0) else 0) + upto (r.map _) x = (if u ≤ x then f u else 0) + upto (r.map _) x + _
    by_cases e : y = u
    · subst e
      have : r.map (fun o => (o, f o + if y = o then 1 else 0)) = r.map fun o => (o, f o) := List.map_congr_left fun o ho => by
        rw [if_neg fun (e : y = o) => h1 (e ▸ ho)]
        simp
      rw [this, if_pos rfl]
      by_cases hx : y ≤ x
      · rw [if_pos hx, if_pos hx, if_pos hx]
        omega
      · rw [if_neg hx, if_neg hx, if_neg hx]
        omega
    · have hr : y ∈ r := (List.mem_cons.mp hy).resolve_left e
      rw [upto_bump h2 hr, if_neg e]
      by_cases hx : u ≤ x
      · rw [if_pos hx, if_pos hx]
        omega
      · rw [if_neg hx, if_neg hx]
        omega
theorem upto_count {U : List Int} (hn : U.Nodup) (x : Int) : ∀ {xs : List Int}, (∀ y ∈ xs, y ∈ U) → upto (U.map fun o => (o, (xs.count o : Int))) x = lec xs x
  | [], hh => by
    show upto (U.map fun o => (o, (0 : Int))) x = 0
    clear hn hh
    induction U with
    | nil => rfl
    | cons u r ih =>
      show (if u ≤ x then 0 else 0) + upto (r.map fun o => (o, (0 : Int))) x = 0
      rw [ih]
      split <;> rfl
  | y :: r, h => by
    have ih := upto_count hn x fun z hz => h z (List.mem_cons_of_mem _ hz)
    have e : (U.map fun o => (o, ((y :: r).count o : Int))) = U.map fun o => (o, (r.count o : Int) + if y = o then 1 else 0) := List.map_congr_left fun o _ => by
      rw [List.count_cons]
      by_cases e : y = o
      · simp [e]
      · simp [e]
    rw [e, upto_bump hn (h y (List.mem_cons_self ..)), ih]
    show lec r x + _ = _ + lec r x
    omega
theorem kof_eq (xs : List Int) : kof xs = knd xs := by
  have ha := srtU_asc xs
  refine knd_eq (fun p hp => ?_) ?_ fun x => upto_count (List.Pairwise.imp (fun h => Int.ne_of_lt h) ha) x fun y hy => srtU_mem.mpr hy
  · obtain ⟨o, ho, rfl⟩ := List.mem_map.mp hp
    have := List.count_pos_iff.mpr (srtU_mem.mp ho)
    show (1 : Int) ≤ (xs.count o : Int)
    omega
  · exact List.pairwise_map.mpr ha
/-! changed lists -/
theorem lec_max {d x : Int} : ∀ {xs : List Int}, lec (xs.map fun y => max y d) x = if d ≤ x then lec xs x else 0
  | [] => by simp [lec]
  | y :: r => by
    show (if max y d ≤ x then 1 else 0) + lec (r.map _) x = if d ≤ x then (if y ≤ x then 1 else 0) + lec r x else 0
    rw [lec_max]
    by_cases hd : d ≤ x
    · rw [if_pos hd, if_pos hd]
      by_cases hy : y ≤ x
      · rw [if_pos hy, if_pos (by omega)]
      · rw [if_neg hy, if_neg (by omega)]
    · rw [if_neg hd, if_neg hd, if_neg (by omega)]
      rfl
def raisL (xs : List Int) (i : Nat) (d : Int) : List Int := xs.take i ++ (xs.drop i).map fun y => max y d
theorem rais_knd {xs : List Int} {i : Nat} {d : Int} (hg : Good (knd xs)) (h : Srt xs) : rais (knd xs) i d = knd (raisL xs i d) := by
  refine knd_eq (gath_pos _) (gath_asc _) fun x => ?_
  have e := rais_upto (d := d) (i := (i : Int)) hg (by omega) x
  show upto (rais (knd xs) i d) x = _
  rw [e, knd_upto]
  unfold raisL
  rw [lec_app, lec_max]
  have ht := lec_take i x h
  have hs : lec (xs.take i) x + lec (xs.drop i) x = lec xs x := by rw [← lec_app, List.take_append_drop]
  by_cases hd : d ≤ x
  · rw [if_pos hd, if_pos hd, hs]
  · rw [if_neg hd, if_neg hd, ht]
    omega
theorem lec_shift {m x : Int} : ∀ {xs : List Int}, lec (xs.map fun y => y + m) x = lec xs (x - m)
  | [] => rfl
  | y :: r => by
    show (if y + m ≤ x then 1 else 0) + lec (r.map _) x = (if y ≤ x - m then 1 else 0) + lec r (x - m)
    rw [lec_shift]
    by_cases hy : y + m ≤ x
    · rw [if_pos hy, if_pos (by omega)]
    · rw [if_neg hy, if_neg (by omega)]
theorem upto_shift {m x : Int} : ∀ {ks : Kd}, upto (ks.map fun p => (p.1 + m, p.2)) x = upto ks (x - m)
  | [] => rfl
  | (d, c) :: r => by
    show (if d + m ≤ x then c else 0) + upto (r.map _) x = (if d ≤ x - m then c else 0) + upto r (x - m)
    rw [upto_shift]
    by_cases hy : d + m ≤ x
    · rw [if_pos hy, if_pos (by omega)]
    · rw [if_neg hy, if_neg (by omega)]
theorem lec_rep {v x : Int} : ∀ n : Nat, lec (List.replicate n v) x = if v ≤ x then (n : Int) else 0
  | 0 => by simp [lec]
  | n + 1 => by
    show (if v ≤ x then 1 else 0) + lec (List.replicate n v) x = _
    rw [lec_rep n]
    by_cases h : v ≤ x
    · rw [if_pos h, if_pos h, if_pos h]
      omega
    · rw [if_neg h, if_neg h, if_neg h]
      rfl
def joinL (xs : List Int) (m : Nat) : List Int := xs.map (fun y => y + (m : Int)) ++ List.replicate m ((xs.length : Int) + m - 1)
theorem join_knd {xs : List Int} {m : Nat} : join (knd xs) m = knd (joinL xs m) := by
  refine knd_eq (gath_pos _) (gath_asc _) fun x => ?_
  show upto (gath _) x = _
  rw [gath_upto, posU_of, upto_app, upto_shift, knd_upto, knd_tot]
  · unfold joinL
    rw [lec_app, lec_shift, lec_rep]
    show _ + ((if (xs.length : Int) + m - 1 ≤ x then (m : Int) else 0) + 0) = _
    rw [Int.add_zero]
  · intro p hp
    rcases List.mem_append.mp hp with hp | hp
    · obtain ⟨q, hq, rfl⟩ := List.mem_map.mp hp
      have := gath_pos (lst1 xs) q hq
      show 0 ≤ q.2
      omega
    · rw [List.mem_singleton] at hp
      subst hp
      show (0 : Int) ≤ m
      omega
theorem add_knd {xs ys : List Int} : gath (knd xs ++ knd ys) = knd (xs ++ ys) := by
  refine knd_eq (gath_pos _) (gath_asc _) fun x => ?_
  rw [gath_upto, posU_of, upto_app, knd_upto, knd_upto, lec_app]
  intro p hp
  rcases List.mem_append.mp hp with hp | hp
  · have := gath_pos (lst1 xs) p hp
    omega
  · have := gath_pos (lst1 ys) p hp
    omega
theorem srtI_eq : ∀ {xs : List Int}, Srt xs → sortI xs = xs := fun {xs} h => List.Perm.eq_of_pairwise (fun a b _ _ h1 h2 => Int.le_antisymm h1 h2) (srt_sorted xs) h (srt_perm xs)
theorem pos_len : ∀ {ks : Kd}, Pos ks → (ks.length : Int) ≤ tot ks
  | [], _ => Int.le_refl _
  | (d, c) :: r, hp => by
    have hc : 1 ≤ c := hp.head
    have := pos_len hp.tail
    show ((r.length + 1 : Nat) : Int) ≤ c + tot r
    omega
theorem knd_len (xs : List Int) : (knd xs).length ≤ xs.length := by
  have := pos_len (knd_pos xs)
  have := knd_tot xs
  omega
/-- what a law's list of degrees is -/
structure Lst (xs : List Int) : Prop where
  ne : xs ≠ []
  low : ∀ x ∈ xs, 0 ≤ x ∧ x < xs.length
  srt : Srt xs
theorem Lst.good {xs : List Int} (h : Lst xs) (hl : xs.length ≤ 1000000) : Good (knd xs) := lst1_good h.ne h.low hl
theorem raisL_len (xs : List Int) (i : Nat) (d : Int) : (raisL xs i d).length = xs.length := by
  unfold raisL
  rw [List.length_append, List.length_map, ← List.length_append, List.take_append_drop]
theorem raisL_ok {xs : List Int} {i : Nat} {d : Int} (h : Lst xs) (hd : 0 ≤ d) (hd2 : d < xs.length) : Lst (raisL xs i d) := by
  refine ⟨fun e => ?_, fun x hx => ?_, ?_⟩
  · have := raisL_len xs i d
    rw [e] at this
    exact h.ne (List.length_eq_zero_iff.mp this.symm)
  · rw [raisL_len]
    unfold raisL at hx
    rcases List.mem_append.mp hx with hx | hx
    · exact h.low x (List.mem_of_mem_take hx)
    · obtain ⟨y, hy, rfl⟩ := List.mem_map.mp hx
      have := h.low y (List.mem_of_mem_drop hy)
      omega
  · have hs := h.srt
    unfold Srt at hs
    rw [← List.take_append_drop i xs, List.pairwise_append] at hs
    obtain ⟨h1, h2, h3⟩ := hs
    unfold raisL Srt
    rw [List.pairwise_append]
    refine ⟨h1, List.pairwise_map.mpr (h2.imp fun {a b} q => by omega), fun a ha b hb => ?_⟩
    obtain ⟨y, hy, rfl⟩ := List.mem_map.mp hb
    have := h3 a ha y hy
    omega
theorem joinL_len (xs : List Int) (m : Nat) : (joinL xs m).length = xs.length + m := by
  unfold joinL
  rw [List.length_append, List.length_map, List.length_replicate]
theorem joinL_ok {xs : List Int} {m : Nat} (h : Lst xs) : Lst (joinL xs m) := by
  have hp : 0 < xs.length := List.length_pos_iff.mpr h.ne
  refine ⟨fun e => ?_, fun x hx => ?_, ?_⟩
  · have := joinL_len xs m
    rw [e] at this
    simp at this
    omega
  · rw [joinL_len]
    unfold joinL at hx
    rcases List.mem_append.mp hx with hx | hx
    · obtain ⟨y, hy, rfl⟩ := List.mem_map.mp hx
      have := h.low y hy
      omega
    · have := (List.mem_replicate.mp hx).2
      omega
  · unfold joinL Srt
    rw [List.pairwise_append]
    refine ⟨List.pairwise_map.mpr (h.srt.imp fun {a b} q => by omega), List.pairwise_replicate.mpr (.inr (Int.le_refl _)), fun a ha b hb => ?_⟩
    obtain ⟨y, hy, rfl⟩ := List.mem_map.mp ha
    have := h.low y hy
    have := (List.mem_replicate.mp hb).2
    omega
theorem addL_ok {xs ys : List Int} (h : Lst xs) (h' : Lst ys) : Lst (sortI (xs ++ ys)) := by
  have hl : (sortI (xs ++ ys)).length = xs.length + ys.length := by rw [(srt_perm _).length_eq, List.length_append]
  refine ⟨fun e => ?_, fun x hx => ?_, srt_sorted _⟩
  · rw [e] at hl
    exact h.ne (List.length_eq_zero_iff.mp (by simp at hl; omega))
  · rw [hl]
    rcases List.mem_append.mp ((srt_perm _).mem_iff.mp hx) with hx | hx
    · have := h.low x hx
      omega
    · have := h'.low x hx
      omega
end Rw
/-! LawW: what laws share: dice beside own lists, drawn lists, shuffles, equal data. -/
namespace Sg
open PySem L2
theorem IsDie.app {μ : Store} {k : Nat} {c : Cell} (h : IsDie μ k) : IsDie (μ ++ [c]) k := by
  obtain ⟨x, y, z, e⟩ := id h
  exact ⟨x, y, z, by rw [List.getElem?_append_left h.lt]; exact e⟩
theorem Cast.app {μ μ2 : Store} {k : Nat} {c : Cell} (h : IsDie μ k) (hc : Cast k (μ ++ [c]) μ2) : ∃ μ1, μ2 = μ1 ++ [c] ∧ Cast k μ μ1 := by
  obtain ⟨x, y, z, rfl⟩ := hc
  exact ⟨_, List.set_append_left _ _ h.lt, x, y, z, rfl⟩

theorem map_erase {α β : Type} (f : α → β) : ∀ (xs : List α) (i : Nat), (xs.map f).eraseIdx i = (xs.eraseIdx i).map f
  | [], _ => rfl
  | _ :: _, 0 => rfl
  | x :: r, i + 1 => by
    show f x :: (r.map f).eraseIdx i = f x :: (r.eraseIdx i).map f
    rw [map_erase f r i]
theorem erase_perm {α : Type} : ∀ {xs : List α} {i : Nat} (h : i < xs.length), (xs[i] :: xs.eraseIdx i).Perm xs
  | _ :: _, 0, _ => .refl _
  | x :: r, i + 1, h => by
    have h' : i < r.length := by simpa using h
    have ih := erase_perm h'
    show (r[i] :: x :: r.eraseIdx i).Perm (x :: r)
    exact (List.Perm.swap _ _ _).trans (.cons _ ih)
/-- data that are the same as themselves -/
def Lay (d : D) (n : Nat) : Prop := ∃ p : PyData, d.py = some p ∧ p.canLay0 = true ∧ p.depth ≤ n ∧ PyData.eqv p p = true
theorem Lay.of {α : Type} [DecidableEq α] {e : α → D} {n : Nat} (h : EqOk e n) (a : α) : Lay (e a) n := by
  obtain ⟨p, h1, h2⟩ := h
  exact ⟨p a, (h1 a).1, (h1 a).2.1, (h1 a).2.2, by rw [h2]; simp⟩
theorem Lay.mono {d : D} {n m : Nat} (h : Lay d n) (hm : n ≤ m) : Lay d m := by
  obtain ⟨p, h1, h2, h3, h4⟩ := h
  exact ⟨p, h1, h2, Nat.le_trans h3 hm, h4⟩
theorem Lay.all {n : Nat} : ∀ {ds : List D}, (∀ d ∈ ds, Lay d n) → ∃ ps : List PyData, D.pyL ds = some ps ∧ PyData.canLayAll0 ps = true ∧ PyData.depthAll ps ≤ n ∧ PyData.eqvAll ps ps = true
  | [], _ => ⟨[], rfl, rfl, Nat.zero_le _, rfl⟩
  | d :: r, h => by
    obtain ⟨p, h1, h2, h3, h4⟩ := h d (List.mem_cons_self ..)
    obtain ⟨ps, k1, k2, k3, k4⟩ := Lay.all fun d hd => h d (List.mem_cons_of_mem _ hd)
    refine ⟨p :: ps, ?_, ?_, ?_, ?_⟩
    · simp only [D.pyL]
      rw [h1, k1]
    · simp only [PyData.canLayAll0, h2, k2, Bool.and_self]
    · simp only [PyData.depthAll]
      omega
    · simp only [PyData.eqvAll, h4, k4, Bool.and_self]
theorem Lay.lst {n : Nat} {ds : List D} (h : ∀ d ∈ ds, Lay d n) : Lay (.lst ds) (n + 1) := by
  obtain ⟨ps, k1, k2, k3, k4⟩ := Lay.all h
  refine ⟨.list ps, ?_, ?_, ?_, ?_⟩
  · simp only [D.py]
    rw [k1]
    rfl
  · simp only [PyData.canLay0]
    exact k2
  · simp only [PyData.depth]
    omega
  · simp only [PyData.eqv]
    exact k4
theorem Lay.eqD {d : D} {n : Nat} (h : Lay d n) (hn : n ≤ 64) : eqD d d = some true := by
  obtain ⟨p, h1, h2, h3, h4⟩ := h
  have sh : SeqAt.shaped p = true := by
    unfold SeqAt.shaped
    rw [h2, decide_eq_true (Nat.le_trans h3 hn)]
    rfl
  unfold Sg.eqD
  rw [h1]
  show (if (SeqAt.shaped p && SeqAt.shaped p) = true then some (PyData.eqv p p) else none) = _
  rw [sh, h4]
  rfl
theorem Lay.str {s : Str} (h : PyData.strOk s = true) : Lay (.str s) 0 := ⟨.str s, rfl, by simp [PyData.canLay0, h], by simp [PyData.depth], by simp [PyData.eqv]⟩
theorem Lay.int (i : Int) : Lay (.int i) 0 := Lay.of EqOk.int i
theorem Lay.bl (i : Bool) : Lay (.bl i) 0 := Lay.of EqOk.bl i
theorem Lay.kT (ks : List (Int × Int)) : Lay (.tup (ks.map pD)) 2 := Lay.of (EqOk.int.pair EqOk.int).tup ks
theorem Lay.iT (xs : List Int) : Lay (.tup (xs.map D.int)) 1 := Lay.of EqOk.int.tup xs
section
variable {T : Tab} {ρ : Rho} {μ : Store} {QL : List D → Store → Prop} {Q : D → Store → Prop} {X : Exc → Store → Prop}
/-- a comprehension by an invariant of what is left, what is made and the store -/
theorem lc_st {α : Type} {b : D → Option Rho} {f : Rho → M Bool} {e : Rho → M (List D)} (g : α → D) (I : List α → List D → Store → Prop)
    (hx : ∀ a r acc μ, I (a :: r) acc μ → wo (b (g a)) fun ρ => wp (f ρ) μ (fun k μ => k = true ∧ wp (e ρ) μ (fun ys μ => I r (acc ++ ys) μ) fun _ _ => False) fun _ _ => False) :
    ∀ (cs : List α) (acc : List D) (μ : Store) (QL : List D → Store → Prop), I cs acc μ → (∀ ys μ, I [] (acc ++ ys) μ → QL ys μ) → wp (lcM b f e (cs.map g)) μ QL X := by
  intro cs
  induction cs with
  | nil =>
    intro acc μ QL h hq
    exact hq [] μ (by rw [List.append_nil]; exact h)
  | cons c r ih =>
    intro acc μ QL h hq
    rw [List.map_cons, lc_cons]
    have q := hx c r acc μ h
    cases e1 : b (g c) with
    | none =>
      rw [e1] at q
      exact q
    | some ρ =>
      rw [e1] at q
      rw [wo_some] at q ⊢
      refine w_mono q ?_ fun _ _ h => h.elim
      rintro k μ1 ⟨rfl, h1⟩
      rw [if_pos rfl]
      refine w_mono h1 ?_ fun _ _ h => h.elim
      intro ys μ2 h2
      refine ih (acc ++ ys) μ2 _ h2 fun zs μ3 h3 => hq (ys ++ zs) μ3 ?_
      rw [← List.append_assoc]
      exact h3
theorem own_is {xs : List D} : isOwn (μ ++ [.own xs]) (.ref μ.length) = true := by
  unfold isOwn
  dsimp only
  rw [List.getElem?_append_right (Nat.le_refl _), Nat.sub_self]
  rfl
theorem own_pop {xs : List D} {i : Int} (h0 : 0 ≤ i) (h1 : i < xs.length) (hb : xs.length ≤ 1000000) : popC (μ ++ [.own xs]) (.ref μ.length) i = some (xs[i.toNat]'(by omega), μ ++ [.own (xs.eraseIdx i.toNat)]) := by
  unfold popC
  dsimp only
  rw [List.getElem?_append_right (Nat.le_refl _), Nat.sub_self]
  show (if -(2 ^ 63) ≤ i ∧ i < 2 ^ 63 then (ixN xs.length i).bind fun j => (xs[j]?).map fun d => (d, (μ ++ [Cell.own xs]).set μ.length (.own (xs.eraseIdx j))) else none) = _
  rw [if_pos (by omega)]
  have e : ixN xs.length i = some i.toNat := by
    unfold ixN
    simp only [h0, h1, if_true]
  rw [e]
  show (xs[i.toNat]?).map _ = _
  rw [List.getElem?_eq_getElem (by omega)]
  show some _ = some _
  congr 2
  rw [List.set_append_right _ _ (Nat.le_refl _), Nat.sub_self]
  rfl
end
end Sg
namespace Rw
def goodB (ks : Kd) : Bool := !ks.isEmpty && ks.all (fun p => decide (1 ≤ p.2)) && decide (ks.Pairwise fun p q => p.1 < q.1) && ks.all (fun p => decide (0 ≤ p.1) && decide (p.1 < tot ks)) && decide (tot ks ≤ 1000000000000000000000000000000000000)
theorem good_of {ks : Kd} (h : goodB ks = true) : Good ks := by
  unfold goodB at h
  simp only [Bool.and_eq_true, List.all_eq_true, decide_eq_true_eq, Bool.not_eq_true', List.isEmpty_eq_false_iff] at h
  obtain ⟨⟨⟨⟨h1, h2⟩, h3⟩, h4⟩, h5⟩ := h
  exact ⟨h1, h2, h3, fun p hp => (h4 p hp).1, fun p hp => (h4 p hp).2, h5⟩
end Rw
namespace Lw
open PySem L2 Sg Rw
local macro_rules | `(tactic| simp_all only [$xs,*]) => `(tactic| simp only [w_non, w_bl, w_int, w_str, w_emp, w_var, w_raw, w_gcon, w_bin, w_neg, w_cmp, w_chain, w_and, w_or, w_not, w_ifx, w_tup, w_lst, w_own, w_dnw, w_call, w_isi, w_mth, w_get, w_sub, w_slc, w_att, w_met, w_mk, w_mks, w_cm, w_lc, w_lc2, w_blt, w_pop, w_ownl, w_cnt, w_cntI, isLst_lst, lstD_lst, w_sset, w_rev, w_fs, wf_nil, wf_cons, sQ_str, w_strf, w_strI, w_strO, d_fmt_int, d_fmt_str, d_notin_lst, d_in_lst, d_bnd_lst, wl_pop, wl_ownl, wl_cnt, wl_sset, wl_rev, wl_fs, wl_strf, wh_nil, wh_cons, h_con, h_att, h_rep, h_cat, h_isi, h_xat, wl_lam, s_rai, s_rai0, tri_next, tri_ret, tri_exc, s_tri, q_repr2, r_bl, r_non, r_int, r_str, r_emp, r_lst, r_tup, s_mat, mQ_none, mQ_some, c_cas, c_nomore, b_nil, b_cons, p_one, p_or, p_seq, p_lit, p_nm, p_wild, p_nil, p_cons, o_nil, o_cons, d_in_tup, d_notin_tup, wl_nil, wl_star, wl_non, wl_bl, wl_int, wl_str, wl_var, wl_raw, wl_gcon, wl_bin, wl_neg, wl_cmp, wl_chain, wl_and, wl_or, wl_not, wl_ite, wl_tup, wl_lst, wl_emp, wl_own, wl_dnw, wl_call, wl_blt, wl_isi, wl_mth, wl_get, wl_sub, wl_slc, wl_att, wl_met, wl_mk, wl_mks, wl_cm, wl_lc, wl_lc2, w_onone, w_osome, wt_val, wt_cmp, wt_chain, wt_not, wt_and, wt_or, wts_nil, wts_cons, wi_val, wi_rng1, wi_rng2, wi_zip, wi_enum, s_asg, s_par, s_put, s_fld, s_app, s_ext, s_ife, s_for, s_ret, s_retN, s_retS, s_expr, s_pass, s_brk, s_cont, ss_nil, ss_cons, thn_next, thn_brk, thn_cont, thn_ret, thn_exc, endN_ret, endN_exc, end_ret, end_next, end_exc, w_frz_non, w_frz_bl, w_frz_int, w_frz_str, w_frz_tup, w_frz_lst, w_frz_rol, w_frz_ins, w_frz_cls, w_frz_dic, wo_some, wo_none, bQ_bl, iQ_int, isi_non_int, isi_non_str, isi_non_tuple, isi_non_list, isi_non_dict, isi_non_bool, isi_non_own, isi_bl_int, isi_bl_str, isi_bl_tuple, isi_bl_list, isi_bl_dict, isi_bl_bool, isi_bl_own, isi_int_int, isi_int_str, isi_int_tuple, isi_int_list, isi_int_dict, isi_int_bool, isi_int_own, isi_str_int, isi_str_str, isi_str_tuple, isi_str_list, isi_str_dict, isi_str_bool, isi_str_own, isi_tup_int, isi_tup_str, isi_tup_tuple, isi_tup_list, isi_tup_dict, isi_tup_bool, isi_tup_own, isi_lst_int, isi_lst_str, isi_lst_tuple, isi_lst_list, isi_lst_dict, isi_lst_bool, isi_lst_own, isi_dic_int, isi_dic_str, isi_dic_tuple, isi_dic_list, isi_dic_dict, isi_dic_bool, isi_dic_own, isi_ins_int, isi_ins_str, isi_ins_tuple, isi_ins_list, isi_ins_dict, isi_ins_bool, isi_ins_own, List.map, Bool.and_true, Bool.true_and, Bool.and_self, eq_self, reduceCtorEq, imp_self, implies_true, forall_const, not_false_eq_true, false_implies, reduceIte, if_true, if_false, wo_ite, w_up, w_rt, w_bd, true_and, and_true, Bool.true_eq_false, Bool.false_eq_true, ite_true, ite_false, startR, List.replicate, List.length_cons, List.length_nil, List.append_nil, List.cons_append, List.nil_append, List.set_cons_zero, List.set_cons_succ, List.getElem?_cons_zero, List.getElem?_cons_succ, List.set, Nat.reduceAdd, Nat.reduceSub, Nat.reduceLeDiff, wipeR, D.nr, D.nrL, metN_ins, opN_ins, w_attI, attQ_some, attQ_none, List.take_length, eq_bl, eq_int, eq_tup, eq_lst, Bool.not_true, Bool.not_false, decide_true, decide_false, Bool.decide_eq_true, w_one1, wo_map, wo_bind, q_bin_non, q_cmp_non, q_sub_non, q_lk_non, q_len_non, q_cmpo_non, q_bin_bl, q_cmp_bl, q_sub_bl, q_lk_bl, q_len_bl, q_cmpo_bl, q_bin_int, q_cmp_int, q_sub_int, q_lk_int, q_len_int, q_cmpo_int, q_bin_str, q_cmp_str, q_sub_str, q_lk_str, q_len_str, q_cmpo_str, q_bin_tup, q_cmp_tup, q_sub_tup, q_lk_tup, q_len_tup, q_cmpo_tup, q_bin_lst, q_cmp_lst, q_sub_lst, q_lk_lst, q_len_lst, q_cmpo_lst, q_bin_dic, q_cmp_dic, q_sub_dic, q_lk_dic, q_len_dic, q_cmpo_dic, q_bin_ref, q_cmp_ref, q_sub_ref, q_len_ref, q_cmpo_ref, q_bin_cls, q_cmp_cls, q_sub_cls, q_lk_cls, q_len_cls, q_cmpo_cls, q_bin_rol, q_cmp_rol, q_sub_rol, q_lk_rol, q_len_rol, q_cmpo_rol, q_lk_ins, q_abs, q_int, q_max2, q_min2, q_all, q_repr, q_any, q_sum, q_sorted, q_tuple, q_list, q_o__lt__, q_o__le__, q_o__gt__, q_o__ge__, q_o__eq__, q_o__add__, q_o__or__, q_osub, d_add_int, d_sub_int, d_mul_int, d_div_int, d_mod_int, d_pow_int, d_add_str, d_add_lst, d_add_tup, d_mul_lst, d_lt_int, d_le_int, d_gt_int, d_ge_int, d_in_dic, d_eq, d_ne, d_is_bl, d_is_non, d_isnot_non, d_tru_bl, d_tru_int, d_tru_tup, d_tru_lst, d_tru_non, d_ix_tup, d_ix_lst, d_ix_rol, d_ix_dic, d_key_int, d_key_str, d_ln_tup, d_ln_lst, d_ln_rol, d_ln_dic, d_ln_str, d_any_lst, d_all_lst, d_sum_lst, d_sorted_lst, d_sorted_dic, d_tuple_lst, d_tuple_tup, d_list_lst, d_list_tup, d_list_dic, d_abs_int, d_int_int, d_int_bl, d_max_int, d_min_int, d_repr_bl, d_repr_lst, d_repr_tup, d_its_lst, d_its_tup, d_sq_lst, d_sq_tup, d_slc_lst, d_slc_tup, d_zip_ll, d_zip_lt, d_zip_tt, d_zip_tl, d_bnd_name, d_bnd_tup, d_bnds_nil, d_dic_y, d_bnds_cons, List.mem_cons, List.not_mem_nil, Nat.reduceEqDiff, or_false, false_or, or_true, true_or, g_0, g_1, g_2, x_0, x_1, x_2, x_3, f_Row_own_kinds, f_Row_own_places, f_Row_kinds, p_Row_kinds, f_Row_places, p_Row_places, f_Row_least, p_Row_least, f_Row_greatest, p_Row_greatest, f_Row_total, p_Row_total, f_Row_degrees, p_Row_degrees, m_Row_degree_at, m_Row_stretches, m_Row_raised, m_Row_joined, m_Row_require_index, m_Row___getitem__, m_Row___add__, m_Row___len__, m_Row___eq__, k_Row_of, $xs,*])
section
variable {μ : Store} {Q : D → Store → Prop} {X : Exc → Store → Prop} {ks ks' ps : Kd} {k : Nat}
theorem srt_len (xs : List Int) : (sortI xs).length = xs.length := (srt_perm xs).length_eq
/-- ints with a property, as data -/
theorem ints_of {α : Type} {P : α → Int → Prop} {as : List α} {ys : List D} (h : All2 (fun a y => ∃ r, y = D.int r ∧ P a r) as ys) : ∃ xs : List Int, ys = xs.map D.int ∧ All2 P as xs := by
  induction h with
  | nil => exact ⟨[], rfl, .nil⟩
  | cons h _ ih =>
    obtain ⟨xs, rfl, h2⟩ := ih
    obtain ⟨r, rfl, hr⟩ := h
    exact ⟨r :: xs, rfl, .cons hr h2⟩
theorem e_ints0 (xs : List Int) : eqD (.lst (xs.map D.int)) (.lst []) = some (decide (xs = [])) := e_ints xs []
theorem frz_row {ks : Kd} : wp (frzD (rowD ks)) μ Q X = Q (rowD ks) μ := rfl
theorem pick_ints {xs : List Int} (hd : IsDie μ k) (h0 : 0 < xs.length) (h1 : xs.length < 1000) (hq : ∀ x ∈ xs, ∀ μ', Cast k μ μ' → Q (.int x) μ') : wp (t_law_pick [.ref k, .lst (xs.map D.int)]) μ Q X := by
  refine pick_ok k _ μ _ _ hd (by rw [List.length_map]; exact h0) (by rw [List.length_map]; omega) (nrL_map (fun _ => rfl) _) fun x μ' hx hc => ?_
  obtain ⟨y, hy, rfl⟩ := List.mem_map.mp hx
  exact hq y hy μ' hc
theorem app_s {xs : List D} {z : Str} (h : xs.length ≤ 1000) : appC (μ ++ [.own xs]) (.ref μ.length) [.str z] = some (μ ++ [.own (xs ++ [.str z])]) := own_app rfl (sz (by show xs.length + 1 ≤ _; omega))
theorem app_0 {xs : List D} (h : xs.length ≤ 1000) : (appC (μ ++ [.own xs]) (.ref μ.length) []).isSome = true := isSome_app.mpr (sz (by omega))
theorem rep_1 {d : D} : (List.replicate (Int.toNat 2) [d]).flatten = [d, d] := (rfl)
theorem rep_2 {d : D} : (List.replicate (Int.toNat 3) [d]).flatten = [d, d, d] := (rfl)
end
end Lw
namespace Lw
open PySem L2 Sg Rw
local macro_rules | `(tactic| simp_all only [$xs,*]) => `(tactic| simp only [w_non, w_bl, w_int, w_str, w_emp, w_var, w_raw, w_gcon, w_bin, w_neg, w_cmp, w_chain, w_and, w_or, w_not, w_ifx, w_tup, w_lst, w_own, w_dnw, w_call, w_isi, w_mth, w_get, w_sub, w_slc, w_att, w_met, w_mk, w_mks, w_cm, w_lc, w_lc2, w_blt, w_pop, w_ownl, w_cnt, w_cntI, isLst_lst, lstD_lst, w_sset, w_rev, w_fs, wf_nil, wf_cons, sQ_str, w_strf, w_strI, w_strO, d_fmt_int, d_fmt_str, d_notin_lst, d_in_lst, d_bnd_lst, wl_pop, wl_ownl, wl_cnt, wl_sset, wl_rev, wl_fs, wl_strf, wh_nil, wh_cons, h_con, h_att, h_rep, h_cat, h_isi, h_xat, wl_lam, s_rai, s_rai0, tri_next, tri_ret, tri_exc, s_tri, q_repr2, r_bl, r_non, r_int, r_str, r_emp, r_lst, r_tup, s_mat, mQ_none, mQ_some, c_cas, c_nomore, b_nil, b_cons, p_one, p_or, p_seq, p_lit, p_nm, p_wild, p_nil, p_cons, o_nil, o_cons, d_in_tup, d_notin_tup, wl_nil, wl_star, wl_non, wl_bl, wl_int, wl_str, wl_var, wl_raw, wl_gcon, wl_bin, wl_neg, wl_cmp, wl_chain, wl_and, wl_or, wl_not, wl_ite, wl_tup, wl_lst, wl_emp, wl_own, wl_dnw, wl_call, wl_blt, wl_isi, wl_mth, wl_get, wl_sub, wl_slc, wl_att, wl_met, wl_mk, wl_mks, wl_cm, wl_lc, wl_lc2, w_onone, w_osome, wt_val, wt_cmp, wt_chain, wt_not, wt_and, wt_or, wts_nil, wts_cons, wi_val, wi_rng1, wi_rng2, wi_zip, wi_enum, s_asg, s_par, s_put, s_fld, s_app, s_ext, s_ife, s_for, s_ret, s_retN, s_retS, s_expr, s_pass, s_brk, s_cont, ss_nil, ss_cons, thn_next, thn_brk, thn_cont, thn_ret, thn_exc, endN_ret, endN_exc, end_ret, end_next, end_exc, w_frz_non, w_frz_bl, w_frz_int, w_frz_str, w_frz_tup, w_frz_lst, w_frz_rol, w_frz_ins, w_frz_cls, w_frz_dic, wo_some, wo_none, bQ_bl, iQ_int, isi_non_int, isi_non_str, isi_non_tuple, isi_non_list, isi_non_dict, isi_non_bool, isi_non_own, isi_bl_int, isi_bl_str, isi_bl_tuple, isi_bl_list, isi_bl_dict, isi_bl_bool, isi_bl_own, isi_int_int, isi_int_str, isi_int_tuple, isi_int_list, isi_int_dict, isi_int_bool, isi_int_own, isi_str_int, isi_str_str, isi_str_tuple, isi_str_list, isi_str_dict, isi_str_bool, isi_str_own, isi_tup_int, isi_tup_str, isi_tup_tuple, isi_tup_list, isi_tup_dict, isi_tup_bool, isi_tup_own, isi_lst_int, isi_lst_str, isi_lst_tuple, isi_lst_list, isi_lst_dict, isi_lst_bool, isi_lst_own, isi_dic_int, isi_dic_str, isi_dic_tuple, isi_dic_list, isi_dic_dict, isi_dic_bool, isi_dic_own, isi_ins_int, isi_ins_str, isi_ins_tuple, isi_ins_list, isi_ins_dict, isi_ins_bool, isi_ins_own, List.map, Bool.and_true, Bool.true_and, Bool.and_self, eq_self, reduceCtorEq, imp_self, implies_true, forall_const, not_false_eq_true, false_implies, reduceIte, if_true, if_false, wo_ite, w_up, w_rt, w_bd, true_and, and_true, Bool.true_eq_false, Bool.false_eq_true, ite_true, ite_false, startR, List.replicate, List.length_cons, List.length_nil, List.append_nil, List.cons_append, List.nil_append, List.set_cons_zero, List.set_cons_succ, List.getElem?_cons_zero, List.getElem?_cons_succ, List.set, Nat.reduceAdd, Nat.reduceSub, Nat.reduceLeDiff, wipeR, D.nr, D.nrL, metN_ins, opN_ins, w_attI, attQ_some, attQ_none, List.take_length, eq_bl, eq_int, eq_tup, eq_lst, Bool.not_true, Bool.not_false, decide_true, decide_false, Bool.decide_eq_true, w_one1, wo_map, wo_bind, q_bin_non, q_cmp_non, q_sub_non, q_lk_non, q_len_non, q_cmpo_non, q_bin_bl, q_cmp_bl, q_sub_bl, q_lk_bl, q_len_bl, q_cmpo_bl, q_bin_int, q_cmp_int, q_sub_int, q_lk_int, q_len_int, q_cmpo_int, q_bin_str, q_cmp_str, q_sub_str, q_lk_str, q_len_str, q_cmpo_str, q_bin_tup, q_cmp_tup, q_sub_tup, q_lk_tup, q_len_tup, q_cmpo_tup, q_bin_lst, q_cmp_lst, q_sub_lst, q_lk_lst, q_len_lst, q_cmpo_lst, q_bin_dic, q_cmp_dic, q_sub_dic, q_lk_dic, q_len_dic, q_cmpo_dic, q_bin_ref, q_cmp_ref, q_sub_ref, q_len_ref, q_cmpo_ref, q_bin_cls, q_cmp_cls, q_sub_cls, q_lk_cls, q_len_cls, q_cmpo_cls, q_bin_rol, q_cmp_rol, q_sub_rol, q_lk_rol, q_len_rol, q_cmpo_rol, q_lk_ins, q_abs, q_int, q_max2, q_min2, q_all, q_repr, q_any, q_sum, q_sorted, q_tuple, q_list, q_o__lt__, q_o__le__, q_o__gt__, q_o__ge__, q_o__eq__, q_o__add__, q_o__or__, q_osub, d_add_int, d_sub_int, d_mul_int, d_div_int, d_mod_int, d_pow_int, d_add_str, d_add_lst, d_add_tup, d_mul_lst, d_lt_int, d_le_int, d_gt_int, d_ge_int, d_in_dic, d_eq, d_ne, d_is_bl, d_is_non, d_isnot_non, d_tru_bl, d_tru_int, d_tru_tup, d_tru_lst, d_tru_non, d_ix_tup, d_ix_lst, d_ix_rol, d_ix_dic, d_key_int, d_key_str, d_ln_tup, d_ln_lst, d_ln_rol, d_ln_dic, d_ln_str, d_any_lst, d_all_lst, d_sum_lst, d_sorted_lst, d_sorted_dic, d_tuple_lst, d_tuple_tup, d_list_lst, d_list_tup, d_list_dic, d_abs_int, d_int_int, d_int_bl, d_max_int, d_min_int, d_repr_bl, d_repr_lst, d_repr_tup, d_its_lst, d_its_tup, d_sq_lst, d_sq_tup, d_slc_lst, d_slc_tup, d_zip_ll, d_zip_lt, d_zip_tt, d_zip_tl, d_bnd_name, d_bnd_tup, d_bnds_nil, d_dic_y, d_bnds_cons, List.mem_cons, List.not_mem_nil, Nat.reduceEqDiff, or_false, false_or, or_true, true_or, g_0, g_1, g_2, x_0, x_1, x_2, x_3, f_Row_own_kinds, f_Row_own_places, f_Row_kinds, p_Row_kinds, f_Row_places, p_Row_places, f_Row_least, p_Row_least, f_Row_greatest, p_Row_greatest, f_Row_total, p_Row_total, f_Row_degrees, p_Row_degrees, m_Row_degree_at, m_Row_stretches, m_Row_raised, m_Row_joined, m_Row_require_index, m_Row___getitem__, m_Row___add__, m_Row___len__, m_Row___eq__, k_Row_of, $xs,*])
section
variable {μ : Store} {Q : D → Store → Prop} {X : Exc → Store → Prop} {ks ks' ps : Kd} {k : Nat}
theorem s1 : 1 ≤ sizeLine := sz (by decide)
theorem s2 : 2 ≤ sizeLine := sz (by decide)
theorem s3 : 3 ≤ sizeLine := sz (by decide)
theorem s5 : 5 ≤ sizeLine := sz (by decide)
theorem s7 : 7 ≤ sizeLine := sz (by decide)
/-- great kinds, as they are drawn -/
structure Far (ks : Kd) : Prop where
  good : Good ks
  len : ks.length ≤ 5
  two : 2 ≤ ks.length
  most : tot ks ≤ 6000000000000000000000000000000
  last : ∀ h : ks ≠ [], 1000000000000000000000000000000 ≤ (ks.getLast h).2 ∧ (ks.getLast h).1 ≤ 50000000000000000000000000000
theorem p10 : powOk 10 6 = true ∧ powOk 10 8 = true ∧ powOk 10 9 = true ∧ powOk 10 28 = true ∧ powOk 10 29 = true ∧ powOk 10 30 = true := by decide +kernel
theorem v10 : (10 : Int) ^ Int.toNat 6 = 1000000 ∧ (10 : Int) ^ Int.toNat 8 = 100000000 ∧ (10 : Int) ^ Int.toNat 9 = 1000000000 ∧ (10 : Int) ^ Int.toNat 28 = 10000000000000000000000000000 ∧ (10 : Int) ^ Int.toNat 29 = 100000000000000000000000000000 ∧ (10 : Int) ^ Int.toNat 30 = 1000000000000000000000000000000 := by decide +kernel
/-- great kinds, while they are being made -/
structure FarA (acc : Kd) (d : Int) : Prop where
  pos : Pos acc
  asc : Asc acc
  low : ∀ p ∈ acc, 0 ≤ p.1 ∧ p.1 < d
  d0 : 0 ≤ d
  d1 : d ≤ 1000000 + acc.length * 10000000000000000000000000000
  tot : tot acc ≤ acc.length * 1000000000000000000000000000000
theorem FarA.snoc {acc : Kd} {d c e : Int} (h : FarA acc d) (c1 : 1 ≤ c) (c2 : c ≤ 1000000000000000000000000000000) (e1 : 1 ≤ e) (e2 : e ≤ 10000000000000000000000000000) : FarA (acc ++ [(d, c)]) (d + e) := by
  have hl : (acc ++ [(d, c)]).length = acc.length + 1 := by rw [List.length_append]; rfl
  refine ⟨fun p hp => ?_, ?_, fun p hp => ?_, by have := h.d0; omega, ?_, ?_⟩
  · rcases List.mem_append.mp hp with hp | hp
    · exact h.pos p hp
    · rw [List.mem_singleton] at hp
      subst hp
      exact c1
  · refine List.pairwise_append.mpr ⟨h.asc, List.pairwise_singleton .., fun p hp q hq => ?_⟩
    rw [List.mem_singleton] at hq
    subst hq
    exact (h.low p hp).2
  · rcases List.mem_append.mp hp with hp | hp
    · have := h.low p hp
      omega
    · rw [List.mem_singleton] at hp
      subst hp
      have := h.d0
      show 0 ≤ d ∧ d < d + e
      omega
  · have := h.d1
    rw [hl]
    omega
  · have := h.tot
    rw [hl, tot_app]
    show Rw.tot acc + (c + 0) ≤ _
    omega
theorem far_end {acc : Kd} {d c : Int} (h : FarA acc d) (h1 : 1 ≤ acc.length) (h4 : acc.length ≤ 4) (c1 : 1000000000000000000000000000000 ≤ c) (c2 : c < 1000000000000000000000000001000) : Far (acc ++ [(d, c)]) := by
  have hl : (acc ++ [(d, c)]).length = acc.length + 1 := by rw [List.length_append]; rfl
  have ht : tot (acc ++ [(d, c)]) = tot acc + c := by
    rw [tot_app]
    show tot acc + (c + 0) = _
    omega
  have t0 := tot_nonneg h.pos
  have t1 := h.tot
  have q0 := h.d0
  have q1 := h.d1
  have hd : d ≤ 50000000000000000000000000000 := by omega
  refine ⟨⟨by simp, fun p hp => ?_, ?_, fun p hp => ?_, fun p hp => ?_, by rw [ht]; omega⟩, by omega, by omega, by rw [ht]; omega, fun hne => ?_⟩
  · rcases List.mem_append.mp hp with hp | hp
    · exact h.pos p hp
    · rw [List.mem_singleton] at hp
      subst hp
      show 1 ≤ c
      omega
  · refine List.pairwise_append.mpr ⟨h.asc, List.pairwise_singleton .., fun p hp q hq => ?_⟩
    rw [List.mem_singleton] at hq
    subst hq
    exact (h.low p hp).2
  · rcases List.mem_append.mp hp with hp | hp
    · exact (h.low p hp).1
    · rw [List.mem_singleton] at hp
      subst hp
      exact q0
  · rw [ht]
    rcases List.mem_append.mp hp with hp | hp
    · have := (h.low p hp).2
      omega
    · rw [List.mem_singleton] at hp
      subst hp
      show d < _
      omega
  · have e : (acc ++ [(d, c)]).getLast hne = (d, c) := by simp
    rw [e]
    exact ⟨c1, hd⟩
theorem far_kinds_w (hd : IsDie μ k) (hq : ∀ ks μ', Cast k μ μ' → Far ks → Q (.tup (ks.map pD)) μ') : wp (t_law_far_kinds [.ref k]) μ Q X := by
  have da := hd.app (c := .own [])
  simp_all only [T_law_far_kinds_cls, T_law_far_kinds_cons, c_law_far_kinds__Row___add__, c_law_far_kinds__law_cast, c_law_far_kinds__law_pick, o_law_far_kinds, b_law_far_kinds, z_size, da.frz, p10, v10]
  refine ⟨sz (by decide), ?_⟩
  refine pick_ints (xs := [0, 1, 3, 1000000]) da (by decide) (by decide) fun d0 hd0 μ1 c1 => ?_
  obtain ⟨μ1, rfl, k1⟩ := c1.app hd
  have d1 := k1.die hd
  have b0 : 0 ≤ d0 ∧ d0 ≤ 1000000 := by
    simp only [List.mem_cons, List.not_mem_nil, or_false] at hd0
    omega
  have da1 := d1.app (c := .own [])
  simp_all only [T_law_far_kinds_cls, T_law_far_kinds_cons, c_law_far_kinds__Row___add__, c_law_far_kinds__law_cast, c_law_far_kinds__law_pick, o_law_far_kinds, b_law_far_kinds, da1.frz]
  refine cast_ok k 4 _ _ _ da1 (by decide) (by decide) fun n μ2 n0 n1 c2 => ?_
  obtain ⟨μ2, rfl, k2⟩ := c2.app d1
  have d2 := k2.die d1
  simp_all only [T_law_far_kinds_cls, T_law_far_kinds_cons, c_law_far_kinds__Row___add__, c_law_far_kinds__law_cast, c_law_far_kinds__law_pick, o_law_far_kinds, b_law_far_kinds]
  refine ⟨rng_ok (by omega) (by omega), ?_⟩
  rw [rngD_eq]
  have hlen : μ.length = μ2.length := by rw [k2.len, k1.len]
  refine for_map (fun (j : Nat) => D.int (0 + (j : Int))) (fun r ρ μ' => ∃ (acc : Kd) (d : Int) (x3 : Option D) (ν : Store), ρ = [some (.ref k), some (.ref μ.length), some (.int d), x3] ∧ μ' = ν ++ [.own (acc.map pD)] ∧ Cast k μ ν ∧ FarA acc d ∧ acc.length + r.length = (1 + n).toNat) ?_ ?_ _ _ _ ⟨[], d0, none, μ2, rfl, rfl, k1.trans k2, ⟨fun _ h => (by cases h), List.Pairwise.nil, fun _ h => (by cases h), b0.1, by show d0 ≤ 1000000 + 0 * _; omega, by decide⟩, by rw [List.length_range]; show 0 + _ = _; omega⟩
  · rintro j r ρ μ' ⟨acc, d, x3, ν, rfl, rfl, cν, fa, hl⟩
    have dν := cν.die hd
    rw [List.length_cons] at hl
    have eν : μ.length = ν.length := cν.len.symm
    have d3 := dν.app (c := .own (acc.map pD))
    simp_all only [T_law_far_kinds_cls, T_law_far_kinds_cons, c_law_far_kinds__Row___add__, c_law_far_kinds__law_cast, c_law_far_kinds__law_pick, o_law_far_kinds, b_law_far_kinds, eν, d3.frz, p10, v10]
    refine ⟨isSome_app.mpr (by rw [List.length_map]; exact sz (by omega)), sz (by decide), ?_⟩
    refine pick_ints (xs := [1, 2, 1000000000, 100000000000000000000000000000 + 7, 1000000000000000000000000000000]) d3 (by decide) (by decide) fun c hc μ4 c4 => ?_
    obtain ⟨ν4, rfl, k4⟩ := c4.app dν
    have bc : 1 ≤ c ∧ c ≤ 1000000000000000000000000000000 := by
      simp only [List.mem_cons, List.not_mem_nil, or_false] at hc
      omega
    have e4 : ν.length = ν4.length := k4.len.symm
    have oa := own_app (μ := ν4) (xs := acc.map pD) (ds := [pD (d, c)]) rfl (by rw [List.length_map]; exact sz (by show acc.length + 1 ≤ _; omega))
    rw [show acc.map pD ++ [pD (d, c)] = (acc ++ [(d, c)]).map pD by rw [List.map_append]; rfl] at oa
    have d4 := k4.die dν
    have d5 := d4.app (c := .own ((acc ++ [(d, c)]).map pD))
    have oa' : appC (ν4 ++ [.own (acc.map pD)]) (.ref ν4.length) [.tup [.int d, .int c]] = some (ν4 ++ [.own ((acc ++ [(d, c)]).map pD)]) := oa
    refine ⟨sz (by decide), ?_⟩
    simp_all only [T_law_far_kinds_cls, T_law_far_kinds_cons, c_law_far_kinds__Row___add__, c_law_far_kinds__law_cast, c_law_far_kinds__law_pick, o_law_far_kinds, b_law_far_kinds, e4, oa', d5.frz, p10, v10]
    refine ⟨sz (by decide), ?_⟩
    refine pick_ints (xs := [1, 2, 100000000, 10000000000000000000000000000]) d5 (by decide) (by decide) fun e he μ6 c6 => ?_
    obtain ⟨ν6, rfl, k6⟩ := c6.app d4
    have be : 1 ≤ e ∧ e ≤ 10000000000000000000000000000 := by
      simp only [List.mem_cons, List.not_mem_nil, or_false] at he
      omega
    simp_all only [T_law_far_kinds_cls, T_law_far_kinds_cons, c_law_far_kinds__Row___add__, c_law_far_kinds__law_cast, c_law_far_kinds__law_pick, o_law_far_kinds, b_law_far_kinds]
    exact ⟨acc ++ [(d, c)], d + e, _, ν6, rfl, rfl, (cν.trans k4).trans k6, fa.snoc bc.1 bc.2 be.1 be.2, by rw [List.length_append]; show acc.length + 1 + _ = _; omega⟩
  · rintro ρ μ' ⟨acc, d, x3, ν, rfl, rfl, cν, fa, hl⟩
    have hl : acc.length + 0 = (1 + n).toNat := hl
    have dν := cν.die hd
    have eν : μ.length = ν.length := cν.len.symm
    have d3 := dν.app (c := .own (acc.map pD))
    simp_all only [T_law_far_kinds_cls, T_law_far_kinds_cons, c_law_far_kinds__Row___add__, c_law_far_kinds__law_cast, c_law_far_kinds__law_pick, o_law_far_kinds, b_law_far_kinds, eν, d3.frz, p10, v10]
    refine ⟨isSome_app.mpr (by rw [List.length_map]; exact sz (by omega)), ?_⟩
    refine cast_ok k 1000 _ _ _ d3 (by decide) (by decide) fun z μ4 z0 z1 c4 => ?_
    obtain ⟨ν4, rfl, k4⟩ := c4.app dν
    have e4 : ν.length = ν4.length := k4.len.symm
    have oa := own_app (μ := ν4) (xs := acc.map pD) (ds := [pD (d, 1000000000000000000000000000000 + z)]) rfl (by rw [List.length_map]; exact sz (by show acc.length + 1 ≤ _; omega))
    rw [show acc.map pD ++ [pD (d, 1000000000000000000000000000000 + z)] = (acc ++ [(d, 1000000000000000000000000000000 + z)]).map pD by rw [List.map_append]; rfl] at oa
    have oa' : appC (ν4 ++ [.own (acc.map pD)]) (.ref ν4.length) [.tup [.int d, .int (1000000000000000000000000000000 + z)]] = some (ν4 ++ [.own ((acc ++ [(d, 1000000000000000000000000000000 + z)]).map pD)]) := oa
    simp_all only [T_law_far_kinds_cls, T_law_far_kinds_cons, c_law_far_kinds__Row___add__, c_law_far_kinds__law_cast, c_law_far_kinds__law_pick, o_law_far_kinds, b_law_far_kinds, e4, oa', own_look, kN, take_dct]
    exact ⟨sz (by decide), hq _ _ (cν.trans k4) (far_end fa (by omega) (by omega) (by omega) (by omega))⟩
theorem kinds_w : wp (t_Row_kinds [rowD ks]) μ Q X = Q (.tup (ks.map pD)) μ := by
  simp_all only [T_Row_kinds_cls, T_Row_kinds_cons, o_Row_kinds, b_Row_kinds, kN]
theorem places_w : wp (t_Row_places [rowD ks]) μ Q X = Q (.int (tot ks)) μ := by
  simp_all only [T_Row_places_cls, T_Row_places_cons, o_Row_places, b_Row_places]
theorem least_w {d : Int} (h : atI ks 0 = some (d, c)) : wp (t_Row_least [rowD ks]) μ Q X = Q (.int d) μ := by
  simp_all only [T_Row_least_cls, T_Row_least_cons, o_Row_least, b_Row_least, atI_map, h, Option.map, sub_pD, pD_0, pD_look]
theorem greatest_w {d : Int} (h : atI ks (-1) = some (d, c)) : wp (t_Row_greatest [rowD ks]) μ Q X = Q (.int d) μ := by
  simp_all only [T_Row_greatest_cls, T_Row_greatest_cons, o_Row_greatest, b_Row_greatest, atI_map, h, Option.map, sub_pD, pD_0, pD_look]
theorem total_w (hl : ks.length ≤ 1000) (hp : ∀ p ∈ ks, 0 ≤ p.1 ∧ p.1 < 1000000) : wp (t_Row_total [rowD ks]) μ Q X = Q (.int (ks.map fun p => p.1 * p.2).sum) μ := by
  refine w_of (w_eq ?_)
  simp_all only [T_Row_total_cls, T_Row_total_cons, o_Row_total, b_Row_total]
  rw [lc_eq pD (fun p => .int (p.1 * p.2)) (fun p hp' => by
    have := hp p hp'
    simp_all only [T_Row_total_cls, T_Row_total_cons, o_Row_total, b_Row_total, bnd_pD, mul_l (i := p.1) (j := p.2) (by omega) (by omega)])]
  simp_all only [T_Row_total_cls, T_Row_total_cons, o_Row_total, b_Row_total, ints_map, List.length_map]
  exact sz (by omega)
theorem len_w (hl : ks.length ≤ 1000) : wp (t_Row___len__ [rowD ks]) μ Q X = Q (.int ks.length) μ := by
  simp_all only [T_Row___len___cls, T_Row___len___cons, o_Row___len__, b_Row___len__, List.length_map]
theorem add_w (hg : Good (gath (ks ++ ks'))) (hl : (ks ++ ks').length < 64) : wp (t_Row___add__ [rowD ks, rowD ks']) μ Q X = Q (rowD (gath (ks ++ ks'))) μ := by
  refine w_of (w_eq ?_)
  have e : ks.map pD ++ (ks'.map pD) = (ks ++ ks').map pD := by rw [List.map_append]
  simp_all only [T_Row___add___cls, T_Row___add___cons, T_Row___add___xcs, c_Row___add____gathered, c_Row___add____Row_of, o_Row___add__, b_Row___add__, e, gathered_w hl, Row_of_w hg (by have := gath_len (ks ++ ks'); omega), kN, List.length_map]
  exact sz (by omega)
end
end Lw
namespace Lw
open PySem L2 Sg Rw
local macro_rules | `(tactic| simp_all only [$xs,*]) => `(tactic| simp only [w_non, w_bl, w_int, w_str, w_emp, w_var, w_raw, w_gcon, w_bin, w_neg, w_cmp, w_chain, w_and, w_or, w_not, w_ifx, w_tup, w_lst, w_own, w_dnw, w_call, w_isi, w_mth, w_get, w_sub, w_slc, w_att, w_met, w_mk, w_mks, w_cm, w_lc, w_lc2, w_blt, w_pop, w_ownl, w_cnt, w_cntI, isLst_lst, lstD_lst, w_sset, w_rev, w_fs, wf_nil, wf_cons, sQ_str, w_strf, w_strI, w_strO, d_fmt_int, d_fmt_str, d_notin_lst, d_in_lst, d_bnd_lst, wl_pop, wl_ownl, wl_cnt, wl_sset, wl_rev, wl_fs, wl_strf, wh_nil, wh_cons, h_con, h_att, h_rep, h_cat, h_isi, h_xat, wl_lam, s_rai, s_rai0, tri_next, tri_ret, tri_exc, s_tri, q_repr2, r_bl, r_non, r_int, r_str, r_emp, r_lst, r_tup, s_mat, mQ_none, mQ_some, c_cas, c_nomore, b_nil, b_cons, p_one, p_or, p_seq, p_lit, p_nm, p_wild, p_nil, p_cons, o_nil, o_cons, d_in_tup, d_notin_tup, wl_nil, wl_star, wl_non, wl_bl, wl_int, wl_str, wl_var, wl_raw, wl_gcon, wl_bin, wl_neg, wl_cmp, wl_chain, wl_and, wl_or, wl_not, wl_ite, wl_tup, wl_lst, wl_emp, wl_own, wl_dnw, wl_call, wl_blt, wl_isi, wl_mth, wl_get, wl_sub, wl_slc, wl_att, wl_met, wl_mk, wl_mks, wl_cm, wl_lc, wl_lc2, w_onone, w_osome, wt_val, wt_cmp, wt_chain, wt_not, wt_and, wt_or, wts_nil, wts_cons, wi_val, wi_rng1, wi_rng2, wi_zip, wi_enum, s_asg, s_par, s_put, s_fld, s_app, s_ext, s_ife, s_for, s_ret, s_retN, s_retS, s_expr, s_pass, s_brk, s_cont, ss_nil, ss_cons, thn_next, thn_brk, thn_cont, thn_ret, thn_exc, endN_ret, endN_exc, end_ret, end_next, end_exc, w_frz_non, w_frz_bl, w_frz_int, w_frz_str, w_frz_tup, w_frz_lst, w_frz_rol, w_frz_ins, w_frz_cls, w_frz_dic, wo_some, wo_none, bQ_bl, iQ_int, isi_non_int, isi_non_str, isi_non_tuple, isi_non_list, isi_non_dict, isi_non_bool, isi_non_own, isi_bl_int, isi_bl_str, isi_bl_tuple, isi_bl_list, isi_bl_dict, isi_bl_bool, isi_bl_own, isi_int_int, isi_int_str, isi_int_tuple, isi_int_list, isi_int_dict, isi_int_bool, isi_int_own, isi_str_int, isi_str_str, isi_str_tuple, isi_str_list, isi_str_dict, isi_str_bool, isi_str_own, isi_tup_int, isi_tup_str, isi_tup_tuple, isi_tup_list, isi_tup_dict, isi_tup_bool, isi_tup_own, isi_lst_int, isi_lst_str, isi_lst_tuple, isi_lst_list, isi_lst_dict, isi_lst_bool, isi_lst_own, isi_dic_int, isi_dic_str, isi_dic_tuple, isi_dic_list, isi_dic_dict, isi_dic_bool, isi_dic_own, isi_ins_int, isi_ins_str, isi_ins_tuple, isi_ins_list, isi_ins_dict, isi_ins_bool, isi_ins_own, List.map, Bool.and_true, Bool.true_and, Bool.and_self, eq_self, reduceCtorEq, imp_self, implies_true, forall_const, not_false_eq_true, false_implies, reduceIte, if_true, if_false, wo_ite, w_up, w_rt, w_bd, true_and, and_true, Bool.true_eq_false, Bool.false_eq_true, ite_true, ite_false, startR, List.replicate, List.length_cons, List.length_nil, List.append_nil, List.cons_append, List.nil_append, List.set_cons_zero, List.set_cons_succ, List.getElem?_cons_zero, List.getElem?_cons_succ, List.set, Nat.reduceAdd, Nat.reduceSub, Nat.reduceLeDiff, wipeR, D.nr, D.nrL, metN_ins, opN_ins, w_attI, attQ_some, attQ_none, List.take_length, eq_bl, eq_int, eq_tup, eq_lst, Bool.not_true, Bool.not_false, decide_true, decide_false, Bool.decide_eq_true, w_one1, wo_map, wo_bind, q_bin_non, q_cmp_non, q_sub_non, q_lk_non, q_len_non, q_cmpo_non, q_bin_bl, q_cmp_bl, q_sub_bl, q_lk_bl, q_len_bl, q_cmpo_bl, q_bin_int, q_cmp_int, q_sub_int, q_lk_int, q_len_int, q_cmpo_int, q_bin_str, q_cmp_str, q_sub_str, q_lk_str, q_len_str, q_cmpo_str, q_bin_tup, q_cmp_tup, q_sub_tup, q_lk_tup, q_len_tup, q_cmpo_tup, q_bin_lst, q_cmp_lst, q_sub_lst, q_lk_lst, q_len_lst, q_cmpo_lst, q_bin_dic, q_cmp_dic, q_sub_dic, q_lk_dic, q_len_dic, q_cmpo_dic, q_bin_ref, q_cmp_ref, q_sub_ref, q_len_ref, q_cmpo_ref, q_bin_cls, q_cmp_cls, q_sub_cls, q_lk_cls, q_len_cls, q_cmpo_cls, q_bin_rol, q_cmp_rol, q_sub_rol, q_lk_rol, q_len_rol, q_cmpo_rol, q_lk_ins, q_abs, q_int, q_max2, q_min2, q_all, q_repr, q_any, q_sum, q_sorted, q_tuple, q_list, q_o__lt__, q_o__le__, q_o__gt__, q_o__ge__, q_o__eq__, q_o__add__, q_o__or__, q_osub, d_add_int, d_sub_int, d_mul_int, d_div_int, d_mod_int, d_pow_int, d_add_str, d_add_lst, d_add_tup, d_mul_lst, d_lt_int, d_le_int, d_gt_int, d_ge_int, d_in_dic, d_eq, d_ne, d_is_bl, d_is_non, d_isnot_non, d_tru_bl, d_tru_int, d_tru_tup, d_tru_lst, d_tru_non, d_ix_tup, d_ix_lst, d_ix_rol, d_ix_dic, d_key_int, d_key_str, d_ln_tup, d_ln_lst, d_ln_rol, d_ln_dic, d_ln_str, d_any_lst, d_all_lst, d_sum_lst, d_sorted_lst, d_sorted_dic, d_tuple_lst, d_tuple_tup, d_list_lst, d_list_tup, d_list_dic, d_abs_int, d_int_int, d_int_bl, d_max_int, d_min_int, d_repr_bl, d_repr_lst, d_repr_tup, d_its_lst, d_its_tup, d_sq_lst, d_sq_tup, d_slc_lst, d_slc_tup, d_zip_ll, d_zip_lt, d_zip_tt, d_zip_tl, d_bnd_name, d_bnd_tup, d_bnds_nil, d_dic_y, d_bnds_cons, List.mem_cons, List.not_mem_nil, Nat.reduceEqDiff, or_false, false_or, or_true, true_or, g_0, g_1, g_2, x_0, x_1, x_2, x_3, f_Row_own_kinds, f_Row_own_places, f_Row_kinds, p_Row_kinds, f_Row_places, p_Row_places, f_Row_least, p_Row_least, f_Row_greatest, p_Row_greatest, f_Row_total, p_Row_total, f_Row_degrees, p_Row_degrees, m_Row_degree_at, m_Row_stretches, m_Row_raised, m_Row_joined, m_Row_require_index, m_Row___getitem__, m_Row___add__, m_Row___len__, m_Row___eq__, k_Row_of, $xs,*])
section
variable {μ : Store} {Q : D → Store → Prop} {X : Exc → Store → Prop} {ks ks' ps : Kd} {k : Nat}
theorem degrees_x (hb : 64 < tot ks) : wp (t_Row_degrees [rowD ks]) μ Q X = X ⟨3, [.int 64]⟩ μ := by
  simp_all only [T_Row_degrees_cls, T_Row_degrees_cons, T_Row_degrees_xcs, o_Row_degrees, b_Row_degrees, hb, Option.isSome]
theorem limit_x (hb : 64 < tot ks) : wp (t_law_limit [rowD ks]) μ Q X = Q (.int 64) μ := by
  simp_all only [T_law_limit_cls, T_law_limit_cons, T_law_limit_xcs, c_law_limit__Row___len__, c_law_limit__Row_degrees, o_law_limit, b_law_limit, degrees_x hb, Option.isSome]
theorem intsK_al : ∀ (al : Kd), intsK? (dKeys al) = some (al.map (·.1))
  | [] => rfl
  | p :: r => by
    show (intsK? (dKeys r)).map (p.1 :: ·) = _
    rw [intsK_al r]
    rfl
theorem put_k (hl : ps.length ≤ 1000000) (hk0 : (gathF [] ps).length < 64) : wp (t_law_put [.lst (ps.map pD)]) μ Q X = Q (.tup ((gath ps).map pD)) μ := by
  refine w_of (w_eq ?_)
  simp_all only [T_law_put_cls, T_law_put_cons, c_law_put__Row___getitem__, c_law_put__Row___add__, o_law_put, b_law_put]
  refine for_map pD (fun r ρ μ' => ∃ (al : Kd) (x2 x3 : Option D), ρ = [some (.lst (ps.map pD)), some (.ref μ.length), x2, x3] ∧ μ' = μ ++ [.dct (dKeys al) (dVals al)] ∧ (al.map (·.1)).Nodup ∧ gathF al r = gathF [] ps ∧ al.length + r.length ≤ ps.length) ?_ ?_ _ _ _ ⟨[], none, none, rfl, rfl, List.nodup_nil, rfl, by simp⟩
  · rintro p r ρ μ' ⟨al, x2, x3, rfl, rfl, nd, h, hle⟩
    rw [List.length_cons] at hle
    obtain ⟨d, c⟩ := p
    simp_all only [T_law_put_cls, T_law_put_cons, c_law_put__Row___getitem__, c_law_put__Row___add__, o_law_put, b_law_put, bnd_pD, look_dct, getQ, dAt_val]
    have hlt : al.length < sizeLine := sz (by omega)
    have hgF : gathF al ((d, c) :: r) = if 0 < c then gathF (put al d c) r else gathF al r := rfl
    by_cases hc : 0 < c
    · simp only [hc, decide_true, if_true]
      rw [putC_al al d c nd hlt, wo_some]
      rw [hgF, if_pos hc] at h
      refine ⟨_, _, _, rfl, rfl, put_nodup nd, h, ?_⟩
      have hl : (put al d c).length ≤ al.length + 1 := by
        unfold put
        split
        · rw [List.length_map]
          omega
        · rw [List.length_append]
          exact Nat.le_refl _
      omega
    · simp only [hc, decide_false, Bool.false_eq_true, if_false]
      rw [hgF, if_neg hc] at h
      exact ⟨_, _, _, rfl, rfl, nd, h, by omega⟩
  · rintro ρ μ' ⟨al, x2, x3, rfl, rfl, nd, h, hle⟩
    have h : al = gathF [] ps := h
    have hle : al.length ≤ ps.length := by
      have : al.length + 0 ≤ ps.length := hle
      omega
    have hk : (dKeys al).map kD = (al.map (·.1)).map D.int := by
      unfold dKeys
      rw [List.map_map, List.map_map]
      rfl
    have hs : (al.map (·.1)).length < 64 := by
      rw [List.length_map, h]
      exact hk0
    have hs2 : (sortI (al.map (·.1))).length ≤ sizeLine := by
      rw [(srt_perm _).length_eq]
      exact sz (by omega)
    simp_all only [T_law_put_cls, T_law_put_cons, c_law_put__Row___getitem__, c_law_put__Row___add__, o_law_put, b_law_put, look_dct, hk, ints_ints, hs, intsK_al]
    rw [lc_eq D.int (fun k => pD (k, val al k)) (fun k hk' => by
      have hm : k ∈ al.map (·.1) := (srt_perm _).mem_iff.mp hk'
      have hf : dAt (dKeys al) (dVals al) (.inl k) = some (.int (val al k)) := by
        rw [dAt_al]
        rw [List.mem_map] at hm
        obtain ⟨p, hp, rfl⟩ := hm
        have := val_mem nd p hp
        unfold val at this ⊢
        cases hf : al.find? fun q => decide (q.1 = p.1) with
        | none =>
          rw [List.find?_eq_none] at hf
          exact absurd (decide_eq_true rfl) (hf p hp)
        | some q => rfl
      simp_all only [T_law_put_cls, T_law_put_cons, c_law_put__Row___getitem__, c_law_put__Row___add__, o_law_put, b_law_put, look_dct, hf, pD]
      exact sz (by decide))]
    simp_all only [T_law_put_cls, T_law_put_cons, c_law_put__Row___getitem__, c_law_put__Row___add__, o_law_put, b_law_put, List.length_map, hs2, take_dct]
    unfold gath
    rw [← h, List.map_map]
    exact ⟨nrL_map (fun _ => rfl) _, rfl⟩
theorem put_w (hl : ps.length < 64) : wp (t_law_put [.lst (ps.map pD)]) μ Q X = Q (.tup ((gath ps).map pD)) μ :=
  put_k (by omega) (by have := (gathF_all (ps := ps) (al := []) List.nodup_nil (fun _ h => by cases h)).2.2.2; simp only [List.length_nil] at this; omega)
theorem law_degree_w {i : Int} (hp : Pos ks) (h0 : 0 ≤ i) (h1 : i < tot ks) : wp (t_law_degree_at [.tup (ks.map pD), .int i]) μ Q X = Q (.int (dg ks i)) μ := by
  refine w_of (w_eq ?_)
  simp_all only [T_law_degree_at_cls, T_law_degree_at_cons, o_law_degree_at, b_law_degree_at]
  refine for_map pD (fun r ρ μ' => μ' = μ ∧ Pos r ∧ ∃ b l x2 x3, ρ = [some (.tup (ks.map pD)), some (.int (i - b)), x2, x3] ∧ dgF b r l i = dg ks i ∧ b ≤ i ∧ i < b + tot r) ?_ ?_ _ _ _ ⟨rfl, hp, 0, 0, none, none, by rw [Int.sub_zero], rfl, h0, by omega⟩
  · rintro ⟨d, c⟩ r ρ μ' ⟨rfl, hr, b, l, x2, x3, rfl, hd, hb, ht⟩
    have ht : i < b + (c + tot r) := ht
    have hd : (if i < b + c then d else dgF (b + c) r d i) = dg ks i := hd
    by_cases hc : i < b + c
    · rw [if_pos hc] at hd
      have hc' : i - b < c := by omega
      simp_all only [T_law_degree_at_cls, T_law_degree_at_cons, o_law_degree_at, b_law_degree_at, bnd_pD, hc']
      first | exact hd | rw [hd]
    · rw [if_neg hc] at hd
      have hc' : ¬ i - b < c := by omega
      simp_all only [T_law_degree_at_cls, T_law_degree_at_cons, o_law_degree_at, b_law_degree_at, bnd_pD, hc']
      exact ⟨hr.tail, b + c, d, _, _, by rw [Int.sub_sub], hd, by omega, by omega⟩
  · rintro ρ ν ⟨rfl, _, b, l, x2, x3, rfl, hd, hb, ht⟩
    have ht : i < b + 0 := ht
    omega
theorem law_raised_w {i d : Int} (hp : Pos ks) (hl : 2 * ks.length < 64) : wp (t_law_raised [.tup (ks.map pD), .int i, .int d]) μ Q X = Q (.tup ((rais ks i d).map pD)) μ := by
  refine w_of (w_eq ?_)
  simp_all only [T_law_raised_cls, T_law_raised_cons, c_law_raised__Row___add__, c_law_raised__law_put, o_law_raised, b_law_raised, z_size]
  refine for_map pD (fun r ρ μ' => μ' = μ ∧ Pos r ∧ ∃ b acc x4 x5 x6, ρ = [some (.tup (ks.map pD)), some (.int (i - b)), some (.int d), some (.lst (List.map pD acc)), x4, x5, x6] ∧ acc ++ rsF b i d r = rsF 0 i d ks ∧ acc.length + 2 * r.length = 2 * ks.length) ?_ ?_ _ _ _ ⟨rfl, hp, 0, [], none, none, none, by rw [Int.sub_zero]; rfl, rfl, by simp⟩
  · rintro ⟨o, c⟩ r ρ μ' ⟨rfl, hr, b, acc, x4, x5, x6, rfl, hd, hn⟩
    have hc : 1 ≤ c := hr.head
    have e : max 0 (min (i - b) c) = min c (max 0 (i - b)) := by omega
    have hn : acc.length + 2 * (r.length + 1) = 2 * ks.length := hn
    simp_all only [T_law_raised_cls, T_law_raised_cons, c_law_raised__Row___add__, c_law_raised__law_put, o_law_raised, b_law_raised, bnd_pD, s2, e]
    refine ⟨sz (by rw [List.length_map]; omega), hr.tail, b + c, acc ++ [(o, min c (max 0 (i - b))), (max o d, c - min c (max 0 (i - b)))], some (.int o), some (.int c), some (.int (min c (max 0 (i - b)))), ?_, ?_, ?_⟩
    · rw [Int.sub_sub, List.map_append]
      rfl
    · rw [List.append_assoc]
      exact hd
    · rw [List.length_append]
      show acc.length + 2 + 2 * r.length = 2 * ks.length
      omega
  · rintro ρ ν ⟨rfl, _, b, acc, x4, x5, x6, rfl, hd, hn⟩
    have hd : acc ++ [] = rsF 0 i d ks := hd
    rw [List.append_nil] at hd
    subst hd
    have hn : (rsF 0 i d ks).length + 2 * 0 = 2 * ks.length := hn
    simp_all only [T_law_raised_cls, T_law_raised_cons, c_law_raised__Row___add__, c_law_raised__law_put, o_law_raised, b_law_raised, put_w (ps := rsF 0 i d ks) (show (rsF 0 i d ks).length < 64 by omega), rais, kN]
end
end Lw
namespace Lw
open PySem L2 Sg Rw
local macro_rules | `(tactic| simp_all only [$xs,*]) => `(tactic| simp only [w_non, w_bl, w_int, w_str, w_emp, w_var, w_raw, w_gcon, w_bin, w_neg, w_cmp, w_chain, w_and, w_or, w_not, w_ifx, w_tup, w_lst, w_own, w_dnw, w_call, w_isi, w_mth, w_get, w_sub, w_slc, w_att, w_met, w_mk, w_mks, w_cm, w_lc, w_lc2, w_blt, w_pop, w_ownl, w_cnt, w_cntI, isLst_lst, lstD_lst, w_sset, w_rev, w_fs, wf_nil, wf_cons, sQ_str, w_strf, w_strI, w_strO, d_fmt_int, d_fmt_str, d_notin_lst, d_in_lst, d_bnd_lst, wl_pop, wl_ownl, wl_cnt, wl_sset, wl_rev, wl_fs, wl_strf, wh_nil, wh_cons, h_con, h_att, h_rep, h_cat, h_isi, h_xat, wl_lam, s_rai, s_rai0, tri_next, tri_ret, tri_exc, s_tri, q_repr2, r_bl, r_non, r_int, r_str, r_emp, r_lst, r_tup, s_mat, mQ_none, mQ_some, c_cas, c_nomore, b_nil, b_cons, p_one, p_or, p_seq, p_lit, p_nm, p_wild, p_nil, p_cons, o_nil, o_cons, d_in_tup, d_notin_tup, wl_nil, wl_star, wl_non, wl_bl, wl_int, wl_str, wl_var, wl_raw, wl_gcon, wl_bin, wl_neg, wl_cmp, wl_chain, wl_and, wl_or, wl_not, wl_ite, wl_tup, wl_lst, wl_emp, wl_own, wl_dnw, wl_call, wl_blt, wl_isi, wl_mth, wl_get, wl_sub, wl_slc, wl_att, wl_met, wl_mk, wl_mks, wl_cm, wl_lc, wl_lc2, w_onone, w_osome, wt_val, wt_cmp, wt_chain, wt_not, wt_and, wt_or, wts_nil, wts_cons, wi_val, wi_rng1, wi_rng2, wi_zip, wi_enum, s_asg, s_par, s_put, s_fld, s_app, s_ext, s_ife, s_for, s_ret, s_retN, s_retS, s_expr, s_pass, s_brk, s_cont, ss_nil, ss_cons, thn_next, thn_brk, thn_cont, thn_ret, thn_exc, endN_ret, endN_exc, end_ret, end_next, end_exc, w_frz_non, w_frz_bl, w_frz_int, w_frz_str, w_frz_tup, w_frz_lst, w_frz_rol, w_frz_ins, w_frz_cls, w_frz_dic, wo_some, wo_none, bQ_bl, iQ_int, isi_non_int, isi_non_str, isi_non_tuple, isi_non_list, isi_non_dict, isi_non_bool, isi_non_own, isi_bl_int, isi_bl_str, isi_bl_tuple, isi_bl_list, isi_bl_dict, isi_bl_bool, isi_bl_own, isi_int_int, isi_int_str, isi_int_tuple, isi_int_list, isi_int_dict, isi_int_bool, isi_int_own, isi_str_int, isi_str_str, isi_str_tuple, isi_str_list, isi_str_dict, isi_str_bool, isi_str_own, isi_tup_int, isi_tup_str, isi_tup_tuple, isi_tup_list, isi_tup_dict, isi_tup_bool, isi_tup_own, isi_lst_int, isi_lst_str, isi_lst_tuple, isi_lst_list, isi_lst_dict, isi_lst_bool, isi_lst_own, isi_dic_int, isi_dic_str, isi_dic_tuple, isi_dic_list, isi_dic_dict, isi_dic_bool, isi_dic_own, isi_ins_int, isi_ins_str, isi_ins_tuple, isi_ins_list, isi_ins_dict, isi_ins_bool, isi_ins_own, List.map, Bool.and_true, Bool.true_and, Bool.and_self, eq_self, reduceCtorEq, imp_self, implies_true, forall_const, not_false_eq_true, false_implies, reduceIte, if_true, if_false, wo_ite, w_up, w_rt, w_bd, true_and, and_true, Bool.true_eq_false, Bool.false_eq_true, ite_true, ite_false, startR, List.replicate, List.length_cons, List.length_nil, List.append_nil, List.cons_append, List.nil_append, List.set_cons_zero, List.set_cons_succ, List.getElem?_cons_zero, List.getElem?_cons_succ, List.set, Nat.reduceAdd, Nat.reduceSub, Nat.reduceLeDiff, wipeR, D.nr, D.nrL, metN_ins, opN_ins, w_attI, attQ_some, attQ_none, List.take_length, eq_bl, eq_int, eq_tup, eq_lst, Bool.not_true, Bool.not_false, decide_true, decide_false, Bool.decide_eq_true, w_one1, wo_map, wo_bind, q_bin_non, q_cmp_non, q_sub_non, q_lk_non, q_len_non, q_cmpo_non, q_bin_bl, q_cmp_bl, q_sub_bl, q_lk_bl, q_len_bl, q_cmpo_bl, q_bin_int, q_cmp_int, q_sub_int, q_lk_int, q_len_int, q_cmpo_int, q_bin_str, q_cmp_str, q_sub_str, q_lk_str, q_len_str, q_cmpo_str, q_bin_tup, q_cmp_tup, q_sub_tup, q_lk_tup, q_len_tup, q_cmpo_tup, q_bin_lst, q_cmp_lst, q_sub_lst, q_lk_lst, q_len_lst, q_cmpo_lst, q_bin_dic, q_cmp_dic, q_sub_dic, q_lk_dic, q_len_dic, q_cmpo_dic, q_bin_ref, q_cmp_ref, q_sub_ref, q_len_ref, q_cmpo_ref, q_bin_cls, q_cmp_cls, q_sub_cls, q_lk_cls, q_len_cls, q_cmpo_cls, q_bin_rol, q_cmp_rol, q_sub_rol, q_lk_rol, q_len_rol, q_cmpo_rol, q_lk_ins, q_abs, q_int, q_max2, q_min2, q_all, q_repr, q_any, q_sum, q_sorted, q_tuple, q_list, q_o__lt__, q_o__le__, q_o__gt__, q_o__ge__, q_o__eq__, q_o__add__, q_o__or__, q_osub, d_add_int, d_sub_int, d_mul_int, d_div_int, d_mod_int, d_pow_int, d_add_str, d_add_lst, d_add_tup, d_mul_lst, d_lt_int, d_le_int, d_gt_int, d_ge_int, d_in_dic, d_eq, d_ne, d_is_bl, d_is_non, d_isnot_non, d_tru_bl, d_tru_int, d_tru_tup, d_tru_lst, d_tru_non, d_ix_tup, d_ix_lst, d_ix_rol, d_ix_dic, d_key_int, d_key_str, d_ln_tup, d_ln_lst, d_ln_rol, d_ln_dic, d_ln_str, d_any_lst, d_all_lst, d_sum_lst, d_sorted_lst, d_sorted_dic, d_tuple_lst, d_tuple_tup, d_list_lst, d_list_tup, d_list_dic, d_abs_int, d_int_int, d_int_bl, d_max_int, d_min_int, d_repr_bl, d_repr_lst, d_repr_tup, d_its_lst, d_its_tup, d_sq_lst, d_sq_tup, d_slc_lst, d_slc_tup, d_zip_ll, d_zip_lt, d_zip_tt, d_zip_tl, d_bnd_name, d_bnd_tup, d_bnds_nil, d_dic_y, d_bnds_cons, List.mem_cons, List.not_mem_nil, Nat.reduceEqDiff, or_false, false_or, or_true, true_or, g_0, g_1, g_2, x_0, x_1, x_2, x_3, f_Row_own_kinds, f_Row_own_places, f_Row_kinds, p_Row_kinds, f_Row_places, p_Row_places, f_Row_least, p_Row_least, f_Row_greatest, p_Row_greatest, f_Row_total, p_Row_total, f_Row_degrees, p_Row_degrees, m_Row_degree_at, m_Row_stretches, m_Row_raised, m_Row_joined, m_Row_require_index, m_Row___getitem__, m_Row___add__, m_Row___len__, m_Row___eq__, k_Row_of, $xs,*])
section
variable {μ : Store} {Q : D → Store → Prop} {X : Exc → Store → Prop} {ks ks' ps : Kd} {k : Nat}
theorem mul_w {i j : Int} (h0 : 0 ≤ i) (h1 : i < 10 ^ 60) (h2 : 0 ≤ j) (h3 : j < 10 ^ 60) : mulOk i j = true := by
  have a := (num_int h0 h1).2.2
  have b := (num_int h2 h3).2.2
  exact decide_eq_true (.inr (.inr (by omega)))
/-- the total of a great row -/
theorem total_g (hl : ks.length ≤ 1000) (hp : ∀ p ∈ ks, (0 ≤ p.1 ∧ p.1 < 10 ^ 60) ∧ 0 ≤ p.2 ∧ p.2 < 10 ^ 60) : wp (t_Row_total [rowD ks]) μ Q X = Q (.int (ks.map fun p => p.1 * p.2).sum) μ := by
  refine w_of (w_eq ?_)
  simp_all only [T_Row_total_cls, T_Row_total_cons, o_Row_total, b_Row_total]
  rw [lc_eq pD (fun p => .int (p.1 * p.2)) (fun p hp' => by
    have h := hp p hp'
    simp_all only [T_Row_total_cls, T_Row_total_cons, o_Row_total, b_Row_total, bnd_pD, mul_w h.1.1 h.1.2 h.2.1 h.2.2])]
  simp_all only [T_Row_total_cls, T_Row_total_cons, o_Row_total, b_Row_total, ints_map, List.length_map]
  exact sz (by omega)
theorem limit_0 (hg : Good ks) (hl : tot ks ≤ 64) (hk : ks.length ≤ 64) : wp (t_law_limit [rowD ks]) μ Q X = Q (.int 0) μ := by
  simp_all only [T_law_limit_cls, T_law_limit_cons, T_law_limit_xcs, c_law_limit__Row___len__, c_law_limit__Row_degrees, o_law_limit, b_law_limit, degrees_w hg hl hk, mul_l (i := 0) (j := (((expd ks).map D.int).length : Int)) (by decide) (by decide), Int.zero_mul, Option.isSome]
/-- a pick out of a tuple -/
theorem pick_t {xs : List D} (hd : IsDie μ k) (h0 : 0 < xs.length) (h1 : xs.length < 1000000000) (hn : D.nrL xs = true) (hq : ∀ x μ', x ∈ xs → Cast k μ μ' → Q x μ') : wp (t_law_pick [.ref k, .tup xs]) μ Q X := by
  simp_all only [T_law_pick_cls, T_law_pick_cons, c_law_pick__Row___getitem__, c_law_pick__Row___len__, c_law_pick__law_cast, o_law_pick, b_law_pick, hd.frz]
  refine cast_ok k _ μ _ _ hd (by omega) (by omega) fun r μ' r0 r1 hc => ?_
  simp_all only [T_law_pick_cls, T_law_pick_cons, c_law_pick__Row___getitem__, c_law_pick__Row___len__, c_law_pick__law_cast, o_law_pick, b_law_pick, atI_ok r0 r1, hc.take]
  have hm := List.getElem_mem (l := xs) (n := r.toNat) (by omega)
  exact ⟨nrL_mem hn hm, hq _ _ hm hc⟩
end
end Lw
namespace Rw
/-- each kind twice -/
def dbl (ks : Kd) : Kd := ks.map fun p => (p.1, 2 * p.2)
theorem dbl_upto : ∀ (ks : Kd) (x : Int), upto (dbl ks) x = 2 * upto ks x
  | [], _ => rfl
  | (d, c) :: r, x => by
    show (if d ≤ x then 2 * c else 0) + upto (dbl r) x = 2 * ((if d ≤ x then c else 0) + upto r x)
    rw [dbl_upto r x]
    split <;> omega
theorem dbl_tot : ∀ ks : Kd, tot (dbl ks) = 2 * tot ks
  | [] => rfl
  | (d, c) :: r => by
    show 2 * c + tot (dbl r) = 2 * (c + tot r)
    rw [dbl_tot r]
    omega
theorem dbl_pos {ks : Kd} (h : Pos ks) : Pos (dbl ks) := by
  intro p hp
  obtain ⟨q, hq, rfl⟩ := List.mem_map.mp hp
  have := h q hq
  show 1 ≤ 2 * q.2
  omega
theorem dbl_asc {ks : Kd} (h : Asc ks) : Asc (dbl ks) := by
  unfold dbl Asc
  rw [List.pairwise_map]
  exact h
theorem gath_dbl {ks : Kd} (hp : Pos ks) (ha : Asc ks) : gath (ks ++ ks) = dbl ks := by
  refine upto_inj (gath_pos _) (gath_asc _) (dbl_pos hp) (dbl_asc ha) fun x => ?_
  rw [gath_upto, posU_of, upto_app, dbl_upto]
  · omega
  · intro p h
    have : p ∈ ks := (List.mem_append.mp h).elim id id
    have := hp p this
    omega
theorem good_dbl {ks : Kd} (hg : Good ks) (h : 2 * tot ks ≤ 1000000000000000000000000000000000000) : Good (dbl ks) := by
  refine ⟨fun e => hg.ne (List.map_eq_nil_iff.mp e), dbl_pos hg.pos, dbl_asc hg.asc, fun p hp => ?_, fun p hp => ?_, by rw [dbl_tot]; exact h⟩
  · obtain ⟨q, hq, rfl⟩ := List.mem_map.mp hp
    exact hg.low q hq
  · obtain ⟨q, hq, rfl⟩ := List.mem_map.mp hp
    have h1 := hg.high q hq
    have h2 := tot_nonneg hg.pos
    rw [dbl_tot]
    show q.1 < _
    omega
theorem count_le {ks : Kd} (h : Pos ks) : ∀ p ∈ ks, p.2 ≤ tot ks := by
  induction ks with
  | nil => exact fun p hp => by cases hp
  | cons q r ih =>
    obtain ⟨d, c⟩ := q
    intro p hp
    have t0 := tot_nonneg h.tail
    have hc : 1 ≤ c := h.head
    show p.2 ≤ c + tot r
    rcases List.mem_cons.mp hp with rfl | hp
    · show c ≤ _
      omega
    · have := ih h.tail p hp
      omega
end Rw
namespace Lw
open PySem L2 Sg Rw
local macro_rules | `(tactic| simp_all only [$xs,*]) => `(tactic| simp only [w_non, w_bl, w_int, w_str, w_emp, w_var, w_raw, w_gcon, w_bin, w_neg, w_cmp, w_chain, w_and, w_or, w_not, w_ifx, w_tup, w_lst, w_own, w_dnw, w_call, w_isi, w_mth, w_get, w_sub, w_slc, w_att, w_met, w_mk, w_mks, w_cm, w_lc, w_lc2, w_blt, w_pop, w_ownl, w_cnt, w_cntI, isLst_lst, lstD_lst, w_sset, w_rev, w_fs, wf_nil, wf_cons, sQ_str, w_strf, w_strI, w_strO, d_fmt_int, d_fmt_str, d_notin_lst, d_in_lst, d_bnd_lst, wl_pop, wl_ownl, wl_cnt, wl_sset, wl_rev, wl_fs, wl_strf, wh_nil, wh_cons, h_con, h_att, h_rep, h_cat, h_isi, h_xat, wl_lam, s_rai, s_rai0, tri_next, tri_ret, tri_exc, s_tri, q_repr2, r_bl, r_non, r_int, r_str, r_emp, r_lst, r_tup, s_mat, mQ_none, mQ_some, c_cas, c_nomore, b_nil, b_cons, p_one, p_or, p_seq, p_lit, p_nm, p_wild, p_nil, p_cons, o_nil, o_cons, d_in_tup, d_notin_tup, wl_nil, wl_star, wl_non, wl_bl, wl_int, wl_str, wl_var, wl_raw, wl_gcon, wl_bin, wl_neg, wl_cmp, wl_chain, wl_and, wl_or, wl_not, wl_ite, wl_tup, wl_lst, wl_emp, wl_own, wl_dnw, wl_call, wl_blt, wl_isi, wl_mth, wl_get, wl_sub, wl_slc, wl_att, wl_met, wl_mk, wl_mks, wl_cm, wl_lc, wl_lc2, w_onone, w_osome, wt_val, wt_cmp, wt_chain, wt_not, wt_and, wt_or, wts_nil, wts_cons, wi_val, wi_rng1, wi_rng2, wi_zip, wi_enum, s_asg, s_par, s_put, s_fld, s_app, s_ext, s_ife, s_for, s_ret, s_retN, s_retS, s_expr, s_pass, s_brk, s_cont, ss_nil, ss_cons, thn_next, thn_brk, thn_cont, thn_ret, thn_exc, endN_ret, endN_exc, end_ret, end_next, end_exc, w_frz_non, w_frz_bl, w_frz_int, w_frz_str, w_frz_tup, w_frz_lst, w_frz_rol, w_frz_ins, w_frz_cls, w_frz_dic, wo_some, wo_none, bQ_bl, iQ_int, isi_non_int, isi_non_str, isi_non_tuple, isi_non_list, isi_non_dict, isi_non_bool, isi_non_own, isi_bl_int, isi_bl_str, isi_bl_tuple, isi_bl_list, isi_bl_dict, isi_bl_bool, isi_bl_own, isi_int_int, isi_int_str, isi_int_tuple, isi_int_list, isi_int_dict, isi_int_bool, isi_int_own, isi_str_int, isi_str_str, isi_str_tuple, isi_str_list, isi_str_dict, isi_str_bool, isi_str_own, isi_tup_int, isi_tup_str, isi_tup_tuple, isi_tup_list, isi_tup_dict, isi_tup_bool, isi_tup_own, isi_lst_int, isi_lst_str, isi_lst_tuple, isi_lst_list, isi_lst_dict, isi_lst_bool, isi_lst_own, isi_dic_int, isi_dic_str, isi_dic_tuple, isi_dic_list, isi_dic_dict, isi_dic_bool, isi_dic_own, isi_ins_int, isi_ins_str, isi_ins_tuple, isi_ins_list, isi_ins_dict, isi_ins_bool, isi_ins_own, List.map, Bool.and_true, Bool.true_and, Bool.and_self, eq_self, reduceCtorEq, imp_self, implies_true, forall_const, not_false_eq_true, false_implies, reduceIte, if_true, if_false, wo_ite, w_up, w_rt, w_bd, true_and, and_true, Bool.true_eq_false, Bool.false_eq_true, ite_true, ite_false, startR, List.replicate, List.length_cons, List.length_nil, List.append_nil, List.cons_append, List.nil_append, List.set_cons_zero, List.set_cons_succ, List.getElem?_cons_zero, List.getElem?_cons_succ, List.set, Nat.reduceAdd, Nat.reduceSub, Nat.reduceLeDiff, wipeR, D.nr, D.nrL, metN_ins, opN_ins, w_attI, attQ_some, attQ_none, List.take_length, eq_bl, eq_int, eq_tup, eq_lst, Bool.not_true, Bool.not_false, decide_true, decide_false, Bool.decide_eq_true, w_one1, wo_map, wo_bind, q_bin_non, q_cmp_non, q_sub_non, q_lk_non, q_len_non, q_cmpo_non, q_bin_bl, q_cmp_bl, q_sub_bl, q_lk_bl, q_len_bl, q_cmpo_bl, q_bin_int, q_cmp_int, q_sub_int, q_lk_int, q_len_int, q_cmpo_int, q_bin_str, q_cmp_str, q_sub_str, q_lk_str, q_len_str, q_cmpo_str, q_bin_tup, q_cmp_tup, q_sub_tup, q_lk_tup, q_len_tup, q_cmpo_tup, q_bin_lst, q_cmp_lst, q_sub_lst, q_lk_lst, q_len_lst, q_cmpo_lst, q_bin_dic, q_cmp_dic, q_sub_dic, q_lk_dic, q_len_dic, q_cmpo_dic, q_bin_ref, q_cmp_ref, q_sub_ref, q_len_ref, q_cmpo_ref, q_bin_cls, q_cmp_cls, q_sub_cls, q_lk_cls, q_len_cls, q_cmpo_cls, q_bin_rol, q_cmp_rol, q_sub_rol, q_lk_rol, q_len_rol, q_cmpo_rol, q_lk_ins, q_abs, q_int, q_max2, q_min2, q_all, q_repr, q_any, q_sum, q_sorted, q_tuple, q_list, q_o__lt__, q_o__le__, q_o__gt__, q_o__ge__, q_o__eq__, q_o__add__, q_o__or__, q_osub, d_add_int, d_sub_int, d_mul_int, d_div_int, d_mod_int, d_pow_int, d_add_str, d_add_lst, d_add_tup, d_mul_lst, d_lt_int, d_le_int, d_gt_int, d_ge_int, d_in_dic, d_eq, d_ne, d_is_bl, d_is_non, d_isnot_non, d_tru_bl, d_tru_int, d_tru_tup, d_tru_lst, d_tru_non, d_ix_tup, d_ix_lst, d_ix_rol, d_ix_dic, d_key_int, d_key_str, d_ln_tup, d_ln_lst, d_ln_rol, d_ln_dic, d_ln_str, d_any_lst, d_all_lst, d_sum_lst, d_sorted_lst, d_sorted_dic, d_tuple_lst, d_tuple_tup, d_list_lst, d_list_tup, d_list_dic, d_abs_int, d_int_int, d_int_bl, d_max_int, d_min_int, d_repr_bl, d_repr_lst, d_repr_tup, d_its_lst, d_its_tup, d_sq_lst, d_sq_tup, d_slc_lst, d_slc_tup, d_zip_ll, d_zip_lt, d_zip_tt, d_zip_tl, d_bnd_name, d_bnd_tup, d_bnds_nil, d_dic_y, d_bnds_cons, List.mem_cons, List.not_mem_nil, Nat.reduceEqDiff, or_false, false_or, or_true, true_or, g_0, g_1, g_2, x_0, x_1, x_2, x_3, f_Row_own_kinds, f_Row_own_places, f_Row_kinds, p_Row_kinds, f_Row_places, p_Row_places, f_Row_least, p_Row_least, f_Row_greatest, p_Row_greatest, f_Row_total, p_Row_total, f_Row_degrees, p_Row_degrees, m_Row_degree_at, m_Row_stretches, m_Row_raised, m_Row_joined, m_Row_require_index, m_Row___getitem__, m_Row___add__, m_Row___len__, m_Row___eq__, k_Row_of, $xs,*])
section
variable {μ : Store} {Q : D → Store → Prop} {X : Exc → Store → Prop} {ks ks' ps : Kd} {k : Nat}
theorem olen_w (hl : ks.length ≤ 1000) : wp (bltT T_law_right .len [rowD ks]) μ Q X = Q (.int ks.length) μ := by
  rw [q_olen, T_law_right_cls, m_Row___len__, wo_some, c_law_right__Row___len__, len_w hl, iQ_int]
  exact and_iff_right (by omega) |> propext
theorem tot_sum : ∀ ks : Kd, (ks.map Prod.snd).sum = tot ks
  | [] => rfl
  | (d, c) :: r => by
    show c + (r.map Prod.snd).sum = c + tot r
    rw [tot_sum r]
theorem e_i4 (a b c d : Int) : eqD (.lst [.int a, .int b, .int c, .int d]) (.lst [.int a, .int b, .int c, .int d]) = some true := by
  have h := e_ints [a, b, c, d] [a, b, c, d]
  rw [decide_eq_true rfl] at h
  exact h
theorem right_w (hd : IsDie μ k) (hq : ∀ μ', Cast k μ μ' → Q (.bl true) μ') : wp (t_law_right [.ref k]) μ Q X := by
  simp_all only [T_law_right_cls, T_law_right_cons, c_law_right__Row_of, c_law_right__Row_raised, c_law_right__Row___getitem__, c_law_right__Row___len__, c_law_right__Row___eq__, c_law_right__Row_kinds, c_law_right__Row___add__, c_law_right__Row_joined, c_law_right__Row_places, c_law_right__Row_least, c_law_right__Row_greatest, c_law_right__Row_total, c_law_right__law_cast, c_law_right__law_pick, c_law_right__law_far_kinds, c_law_right__law_degree_at, c_law_right__law_put, c_law_right__law_raised, c_law_right__law_limit, o_law_right, b_law_right, hd.frz]
  refine far_kinds_w hd fun ks μ1 c1 hf => ?_
  have d1 := c1.die hd
  have hl := hf.len
  have h2 := hf.two
  have hg := hf.good
  have hmost := hf.most
  have hbig : 1000000000000000000000000000000 ≤ tot ks := by
    have h1 := (hf.last hg.ne).1
    have := count_le hg.pos _ (List.getLast_mem hg.ne)
    omega
  simp_all only [T_law_right_cls, T_law_right_cons, c_law_right__Row_of, c_law_right__Row_raised, c_law_right__Row___getitem__, c_law_right__Row___len__, c_law_right__Row___eq__, c_law_right__Row_kinds, c_law_right__Row___add__, c_law_right__Row_joined, c_law_right__Row_places, c_law_right__Row_least, c_law_right__Row_greatest, c_law_right__Row_total, c_law_right__law_cast, c_law_right__law_pick, c_law_right__law_far_kinds, c_law_right__law_degree_at, c_law_right__law_put, c_law_right__law_raised, c_law_right__law_limit, o_law_right, b_law_right, d1.frz, Row_of_w hf.good (show ks.length < 1000000 by omega)]
  rw [lc_eq pD (fun p => .int p.2) (cs := ks) (fun p hp => by simp_all only [T_law_right_cls, T_law_right_cons, c_law_right__Row_of, c_law_right__Row_raised, c_law_right__Row___getitem__, c_law_right__Row___len__, c_law_right__Row___eq__, c_law_right__Row_kinds, c_law_right__Row___add__, c_law_right__Row_joined, c_law_right__Row_places, c_law_right__Row_least, c_law_right__Row_greatest, c_law_right__Row_total, c_law_right__law_cast, c_law_right__law_pick, c_law_right__law_far_kinds, c_law_right__law_degree_at, c_law_right__law_put, c_law_right__law_raised, c_law_right__law_limit, o_law_right, b_law_right, bnd_pD])]
  obtain ⟨p0, e0, m0⟩ : ∃ p, atI ks 0 = some p ∧ p ∈ ks := ⟨ks[0]'(by omega), by
    rw [atI_ok (by omega) (by omega)]
    rfl, List.getElem_mem _⟩
  obtain ⟨p1, e1, m1⟩ : ∃ p, atI ks (-1) = some p ∧ p ∈ ks := ⟨_, atI_last hg.ne, List.getLast_mem hg.ne⟩
  simp_all only [T_law_right_cls, T_law_right_cons, c_law_right__Row_of, c_law_right__Row_raised, c_law_right__Row___getitem__, c_law_right__Row___len__, c_law_right__Row___eq__, c_law_right__Row_kinds, c_law_right__Row___add__, c_law_right__Row_joined, c_law_right__Row_places, c_law_right__Row_least, c_law_right__Row_greatest, c_law_right__Row_total, c_law_right__law_cast, c_law_right__law_pick, c_law_right__law_far_kinds, c_law_right__law_degree_at, c_law_right__law_put, c_law_right__law_raised, c_law_right__law_limit, o_law_right, b_law_right, ints_map, List.length_map, tot_sum, places_w, least_w (d := p0.1) (c := p0.2) e0, greatest_w (d := p1.1) (c := p1.2) e1, olen_w (show ks.length ≤ 1000 by omega), atI_map, e0, e1, sub_pD, pD_0, pD_look, e_i4, Option.map]
  have hk5 : ks.length ≤ 1000 := by omega
  have hbnd : ∀ p ∈ ks, (0 ≤ p.1 ∧ p.1 < 10 ^ 60) ∧ 0 ≤ p.2 ∧ p.2 < 10 ^ 60 := fun p hp => by
    have a := hg.low p hp
    have b := hg.high p hp
    have c := hg.pos p hp
    have d := count_le hg.pos p hp
    exact ⟨⟨a, by omega⟩, by omega, by omega⟩
  have hs : ks.length ≤ sizeLine := sz (by omega)
  have s2 : 2 ≤ sizeLine := sz (by decide)
  have s4 : 4 ≤ sizeLine := sz (by decide)
  have dv2 : divOk 2 = true := div_ok (by decide) (by decide)
  have dv3 : divOk 3 = true := div_ok (by decide) (by decide)
  simp_all only [T_law_right_cls, T_law_right_cons, c_law_right__Row_of, c_law_right__Row_raised, c_law_right__Row___getitem__, c_law_right__Row___len__, c_law_right__Row___eq__, c_law_right__Row_kinds, c_law_right__Row___add__, c_law_right__Row_joined, c_law_right__Row_places, c_law_right__Row_least, c_law_right__Row_greatest, c_law_right__Row_total, c_law_right__law_cast, c_law_right__law_pick, c_law_right__law_far_kinds, c_law_right__law_degree_at, c_law_right__law_put, c_law_right__law_raised, c_law_right__law_limit, o_law_right, b_law_right, s4, total_g hk5 hbnd]
  rw [lc_eq pD (fun p => .int (p.1 * p.2)) (cs := ks) (fun p hp => by
    have h := hbnd p hp
    simp_all only [T_law_right_cls, T_law_right_cons, c_law_right__Row_of, c_law_right__Row_raised, c_law_right__Row___getitem__, c_law_right__Row___len__, c_law_right__Row___eq__, c_law_right__Row_kinds, c_law_right__Row___add__, c_law_right__Row_joined, c_law_right__Row_places, c_law_right__Row_least, c_law_right__Row_greatest, c_law_right__Row_total, c_law_right__law_cast, c_law_right__law_pick, c_law_right__law_far_kinds, c_law_right__law_degree_at, c_law_right__law_put, c_law_right__law_raised, c_law_right__law_limit, o_law_right, b_law_right, bnd_pD, mul_w h.1.1 h.1.2 h.2.1 h.2.2])]
  simp_all only [T_law_right_cls, T_law_right_cons, c_law_right__Row_of, c_law_right__Row_raised, c_law_right__Row___getitem__, c_law_right__Row___len__, c_law_right__Row___eq__, c_law_right__Row_kinds, c_law_right__Row___add__, c_law_right__Row_joined, c_law_right__Row_places, c_law_right__Row_least, c_law_right__Row_greatest, c_law_right__Row_total, c_law_right__law_cast, c_law_right__law_pick, c_law_right__law_far_kinds, c_law_right__law_degree_at, c_law_right__law_put, c_law_right__law_raised, c_law_right__law_limit, o_law_right, b_law_right, ints_map, List.length_map, s4, e_int, dv2, dv3, hs]
  refine for_map pD (fun r ρ μ' => μ' = μ1 ∧ Pos r ∧ ∃ (es : List Int) (b : Int) (x6 x7 : Option D), ρ = [some (.ref k), some (.tup (ks.map pD)), some (rowD ks), some (.int (tot ks)), some (.lst (es.map D.int)), some (.int b), x6, x7, none, none, none, none, none] ∧ (∀ e ∈ es, 0 ≤ e ∧ e < tot ks) ∧ es.length + 2 * r.length ≤ 20 ∧ 0 < es.length ∧ 0 ≤ b ∧ b + tot r = tot ks) ?_ ?_ _ _ _ ⟨rfl, hg.pos, [0, tot ks - 1, tot ks / 2, tot ks / 3], 0, none, none, rfl, ?_, by show 4 + 2 * ks.length ≤ 20; omega, Nat.zero_lt_succ _, Int.le_refl _, by omega⟩
  · rintro ⟨d, c⟩ r ρ μ' ⟨rfl, hr, es, b, x6, x7, rfl, he, hle, h0, hb, ht⟩
    have hc : 1 ≤ c := hr.head
    have t0 := tot_nonneg hr.tail
    have ht : b + (c + tot r) = tot ks := ht
    rw [List.length_cons] at hle
    simp_all only [T_law_right_cls, T_law_right_cons, c_law_right__Row_of, c_law_right__Row_raised, c_law_right__Row___getitem__, c_law_right__Row___len__, c_law_right__Row___eq__, c_law_right__Row_kinds, c_law_right__Row___add__, c_law_right__Row_joined, c_law_right__Row_places, c_law_right__Row_least, c_law_right__Row_greatest, c_law_right__Row_total, c_law_right__law_cast, c_law_right__law_pick, c_law_right__law_far_kinds, c_law_right__law_degree_at, c_law_right__law_put, c_law_right__law_raised, c_law_right__law_limit, o_law_right, b_law_right, bnd_pD, s2]
    refine ⟨sz (by rw [List.length_map]; omega), hr.tail, es ++ [b, b + c - 1], b + c, _, _, by rw [List.map_append]; rfl, fun e q => ?_, by rw [List.length_append]; show es.length + 2 + 2 * r.length ≤ 20; omega, by rw [List.length_append]; omega, by omega, by omega⟩
    rcases List.mem_append.mp q with q | q
    · exact he e q
    · simp only [List.mem_cons, List.not_mem_nil, or_false] at q
      omega
  · rintro ρ ν ⟨rfl, _, es, b, x6, x7, rfl, he, hle, h0, hb, _⟩
    have hle : es.length ≤ 20 := by
      have : es.length + 2 * 0 ≤ 20 := hle
      omega
    simp_all only [T_law_right_cls, T_law_right_cons, c_law_right__Row_of, c_law_right__Row_raised, c_law_right__Row___getitem__, c_law_right__Row___len__, c_law_right__Row___eq__, c_law_right__Row_kinds, c_law_right__Row___add__, c_law_right__Row_joined, c_law_right__Row_places, c_law_right__Row_least, c_law_right__Row_greatest, c_law_right__Row_total, c_law_right__law_cast, c_law_right__law_pick, c_law_right__law_far_kinds, c_law_right__law_degree_at, c_law_right__law_put, c_law_right__law_raised, c_law_right__law_limit, o_law_right, b_law_right]
    refine for_map D.int (fun r ρ μ' => μ' = ν ∧ (∀ e ∈ r, 0 ≤ e ∧ e < tot ks) ∧ ∃ (x8 : Option D), ρ = [some (.ref k), some (.tup (ks.map pD)), some (rowD ks), some (.int (tot ks)), some (.lst (es.map D.int)), some (.int b), x6, x7, x8, none, none, none, none]) ?_ ?_ _ _ _ ⟨rfl, he, none, rfl⟩
    · rintro i r ρ μ' ⟨rfl, hi, x8, rfl⟩
      have hi0 := hi i (List.mem_cons_self ..)
      simp_all only [T_law_right_cls, T_law_right_cons, c_law_right__Row_of, c_law_right__Row_raised, c_law_right__Row___getitem__, c_law_right__Row___len__, c_law_right__Row___eq__, c_law_right__Row_kinds, c_law_right__Row___add__, c_law_right__Row_joined, c_law_right__Row_places, c_law_right__Row_least, c_law_right__Row_greatest, c_law_right__Row_total, c_law_right__law_cast, c_law_right__law_pick, c_law_right__law_far_kinds, c_law_right__law_degree_at, c_law_right__law_put, c_law_right__law_raised, c_law_right__law_limit, o_law_right, b_law_right, getitem_w hg hi0.1 hi0.2, law_degree_w hg.pos hi0.1 hi0.2, e_int]
      exact ⟨fun e q => hi e (List.mem_cons_of_mem _ q), _, rfl⟩
    · rintro ρ ν' ⟨rfl, _, x8, rfl⟩
      simp_all only [T_law_right_cls, T_law_right_cons, c_law_right__Row_of, c_law_right__Row_raised, c_law_right__Row___getitem__, c_law_right__Row___len__, c_law_right__Row___eq__, c_law_right__Row_kinds, c_law_right__Row___add__, c_law_right__Row_joined, c_law_right__Row_places, c_law_right__Row_least, c_law_right__Row_greatest, c_law_right__Row_total, c_law_right__law_cast, c_law_right__law_pick, c_law_right__law_far_kinds, c_law_right__law_degree_at, c_law_right__law_put, c_law_right__law_raised, c_law_right__law_limit, o_law_right, b_law_right]
      refine ⟨rng_ok (by decide) (by decide), ?_⟩
      rw [rngD_eq]
      refine for_map (fun (j : Nat) => D.int (0 + (j : Int))) (fun r ρ μ' => Cast k ν' μ' ∧ ∃ (x6 x8 x9 : Option D), ρ = [some (.ref k), some (.tup (ks.map pD)), some (rowD ks), some (.int (tot ks)), some (.lst (es.map D.int)), some (.int b), x6, x7, x8, x9, none, none, none]) ?_ ?_ _ _ _ ⟨Cast.refl d1, _, _, _, rfl⟩
      · rintro j r ρ μ3 ⟨c3, x6, x8, x9, rfl⟩
        have d3 := c3.die d1
        simp_all only [T_law_right_cls, T_law_right_cons, c_law_right__Row_of, c_law_right__Row_raised, c_law_right__Row___getitem__, c_law_right__Row___len__, c_law_right__Row___eq__, c_law_right__Row_kinds, c_law_right__Row___add__, c_law_right__Row_joined, c_law_right__Row_places, c_law_right__Row_least, c_law_right__Row_greatest, c_law_right__Row_total, c_law_right__law_cast, c_law_right__law_pick, c_law_right__law_far_kinds, c_law_right__law_degree_at, c_law_right__law_put, c_law_right__law_raised, c_law_right__law_limit, o_law_right, b_law_right, d3.frz]
        refine pick_ints (xs := es) d3 h0 (by omega) fun i hi μ4 c4 => ?_
        have d4 := c4.die d3
        have hib := he i hi
        simp_all only [T_law_right_cls, T_law_right_cons, c_law_right__Row_of, c_law_right__Row_raised, c_law_right__Row___getitem__, c_law_right__Row___len__, c_law_right__Row___eq__, c_law_right__Row_kinds, c_law_right__Row___add__, c_law_right__Row_joined, c_law_right__Row_places, c_law_right__Row_least, c_law_right__Row_greatest, c_law_right__Row_total, c_law_right__law_cast, c_law_right__law_pick, c_law_right__law_far_kinds, c_law_right__law_degree_at, c_law_right__law_put, c_law_right__law_raised, c_law_right__law_limit, o_law_right, b_law_right, d4.frz]
        refine pick_t d4 (by rw [List.length_map]; omega) (by rw [List.length_map]; omega) (kN ks) fun x μ5 hx c5 => ?_
        have d5 := c5.die d4
        obtain ⟨p, hp, rfl⟩ := List.mem_map.mp hx
        have pl := hg.low p hp
        have ph := hg.high p hp
        simp_all only [T_law_right_cls, T_law_right_cons, c_law_right__Row_of, c_law_right__Row_raised, c_law_right__Row___getitem__, c_law_right__Row___len__, c_law_right__Row___eq__, c_law_right__Row_kinds, c_law_right__Row___add__, c_law_right__Row_joined, c_law_right__Row_places, c_law_right__Row_least, c_law_right__Row_greatest, c_law_right__Row_total, c_law_right__law_cast, c_law_right__law_pick, c_law_right__law_far_kinds, c_law_right__law_degree_at, c_law_right__law_put, c_law_right__law_raised, c_law_right__law_limit, o_law_right, b_law_right, sub_pD, pD_0, s4, p10, v10]
        refine pick_ints (xs := [0, tot ks - 1, p.1, 1000000000]) d5 (Nat.zero_lt_succ _) (by show 4 < 1000; decide) fun d hd' μ6 c6 => ?_
        have hdb : 0 ≤ d ∧ d < tot ks := by
          simp only [List.mem_cons, List.not_mem_nil, or_false] at hd'
          omega
        simp_all only [T_law_right_cls, T_law_right_cons, c_law_right__Row_of, c_law_right__Row_raised, c_law_right__Row___getitem__, c_law_right__Row___len__, c_law_right__Row___eq__, c_law_right__Row_kinds, c_law_right__Row___add__, c_law_right__Row_joined, c_law_right__Row_places, c_law_right__Row_least, c_law_right__Row_greatest, c_law_right__Row_total, c_law_right__law_cast, c_law_right__law_pick, c_law_right__law_far_kinds, c_law_right__law_degree_at, c_law_right__law_put, c_law_right__law_raised, c_law_right__law_limit, o_law_right, b_law_right, raised_w hg (show 2 * ks.length < 64 by omega) hib.1 hib.2 hdb.1 hdb.2, kinds_w, law_raised_w (i := i) (d := d) hg.pos (show 2 * ks.length < 64 by omega), e_kTm]
        exact ⟨((c3.trans c4).trans c5).trans c6, _, _, _, rfl⟩
      · rintro ρ μ3 ⟨c3, x6, x8, x9, rfl⟩
        have d3 := c3.die d1
        simp_all only [T_law_right_cls, T_law_right_cons, c_law_right__Row_of, c_law_right__Row_raised, c_law_right__Row___getitem__, c_law_right__Row___len__, c_law_right__Row___eq__, c_law_right__Row_kinds, c_law_right__Row___add__, c_law_right__Row_joined, c_law_right__Row_places, c_law_right__Row_least, c_law_right__Row_greatest, c_law_right__Row_total, c_law_right__law_cast, c_law_right__law_pick, c_law_right__law_far_kinds, c_law_right__law_degree_at, c_law_right__law_put, c_law_right__law_raised, c_law_right__law_limit, o_law_right, b_law_right, d3.frz, p10, v10]
        refine cast_ok k 1000000 _ _ _ d3 (by decide) (by decide) fun z μ4 z0 z1 c4 => ?_
        have d4 := c4.die d3
        simp_all only [T_law_right_cls, T_law_right_cons, c_law_right__Row_of, c_law_right__Row_raised, c_law_right__Row___getitem__, c_law_right__Row___len__, c_law_right__Row___eq__, c_law_right__Row_kinds, c_law_right__Row___add__, c_law_right__Row_joined, c_law_right__Row_places, c_law_right__Row_least, c_law_right__Row_greatest, c_law_right__Row_total, c_law_right__law_cast, c_law_right__law_pick, c_law_right__law_far_kinds, c_law_right__law_degree_at, c_law_right__law_put, c_law_right__law_raised, c_law_right__law_limit, o_law_right, b_law_right, s4]
        refine pick_ints (xs := [0, 1, 1000000000000000000000000000000, 7 + z]) d4 (Nat.zero_lt_succ _) (by show 4 < 1000; decide) fun m hm μ5 c5 => ?_
        have hmb : 0 ≤ m ∧ m ≤ 1000000000000000000000000000000 := by
          simp only [List.mem_cons, List.not_mem_nil, or_false] at hm
          omega
        simp_all only [T_law_right_cls, T_law_right_cons, c_law_right__Row_of, c_law_right__Row_raised, c_law_right__Row___getitem__, c_law_right__Row___len__, c_law_right__Row___eq__, c_law_right__Row_kinds, c_law_right__Row___add__, c_law_right__Row_joined, c_law_right__Row_places, c_law_right__Row_least, c_law_right__Row_greatest, c_law_right__Row_total, c_law_right__law_cast, c_law_right__law_pick, c_law_right__law_far_kinds, c_law_right__law_degree_at, c_law_right__law_put, c_law_right__law_raised, c_law_right__law_limit, o_law_right, b_law_right]
        rw [lc_eq pD (fun p => pD (p.1 + m, p.2)) (cs := ks) (fun p hp => by
          simp_all only [T_law_right_cls, T_law_right_cons, c_law_right__Row_of, c_law_right__Row_raised, c_law_right__Row___getitem__, c_law_right__Row___len__, c_law_right__Row___eq__, c_law_right__Row_kinds, c_law_right__Row___add__, c_law_right__Row_joined, c_law_right__Row_places, c_law_right__Row_least, c_law_right__Row_greatest, c_law_right__Row_total, c_law_right__law_cast, c_law_right__law_pick, c_law_right__law_far_kinds, c_law_right__law_degree_at, c_law_right__law_put, c_law_right__law_raised, c_law_right__law_limit, o_law_right, b_law_right, bnd_pD, pD]
          exact s2)]
        have s1 : 1 ≤ sizeLine := sz (by decide)
        have s6 : ks.length + 1 ≤ sizeLine := sz (by omega)
        have hl2 : (ks.map (fun p => (p.1 + m, p.2)) ++ [(tot ks + m - 1, m)]).length < 64 := by
          rw [List.length_append, List.length_map]
          show ks.length + 1 < 64
          omega
        have ej : ks.map (fun p => pD (p.1 + m, p.2)) ++ [D.tup [.int (tot ks + m - 1), .int m]] = (ks.map (fun p => (p.1 + m, p.2)) ++ [(tot ks + m - 1, m)]).map pD := by
          rw [List.map_append, List.map_map]
          rfl
        have ejn : gath (ks.map (fun p => (p.1 + m, p.2)) ++ [(tot ks + m - 1, m)]) = join ks m := rfl
        have hgd : Good (gath (ks ++ ks)) := by
          rw [gath_dbl hg.pos hg.asc]
          exact good_dbl hg (by omega)
        simp_all only [T_law_right_cls, T_law_right_cons, c_law_right__Row_of, c_law_right__Row_raised, c_law_right__Row___getitem__, c_law_right__Row___len__, c_law_right__Row___eq__, c_law_right__Row_kinds, c_law_right__Row___add__, c_law_right__Row_joined, c_law_right__Row_places, c_law_right__Row_least, c_law_right__Row_greatest, c_law_right__Row_total, c_law_right__law_cast, c_law_right__law_pick, c_law_right__law_far_kinds, c_law_right__law_degree_at, c_law_right__law_put, c_law_right__law_raised, c_law_right__law_limit, o_law_right, b_law_right, List.length_map, s1, s2, s6, hs, ej, put_w hl2, ejn, joined_w (m := m) hg (show ks.length + 1 < 64 by omega) hmb.1 hmb.2 (by omega), kinds_w, e_kTm, add_w (ks := ks) (ks' := ks) hgd (by rw [List.length_append]; omega), gath_dbl hg.pos hg.asc]
        rw [lc_eq pD (fun p => pD (p.1, 2 * p.2)) (cs := ks) (fun p hp => by
          simp_all only [T_law_right_cls, T_law_right_cons, c_law_right__Row_of, c_law_right__Row_raised, c_law_right__Row___getitem__, c_law_right__Row___len__, c_law_right__Row___eq__, c_law_right__Row_kinds, c_law_right__Row___add__, c_law_right__Row_joined, c_law_right__Row_places, c_law_right__Row_least, c_law_right__Row_greatest, c_law_right__Row_total, c_law_right__law_cast, c_law_right__law_pick, c_law_right__law_far_kinds, c_law_right__law_degree_at, c_law_right__law_put, c_law_right__law_raised, c_law_right__law_limit, o_law_right, b_law_right, bnd_pD, pD, mul_l (i := 2) (j := p.2) (by decide) (by decide), s2])]
        have ed : ks.map (fun p => pD (p.1, 2 * p.2)) = (dbl ks).map pD := by
          unfold dbl
          rw [List.map_map]
          rfl
        have el : (dbl ks).length = ks.length := by
          unfold dbl
          rw [List.length_map]
        simp_all only [T_law_right_cls, T_law_right_cons, c_law_right__Row_of, c_law_right__Row_raised, c_law_right__Row___getitem__, c_law_right__Row___len__, c_law_right__Row___eq__, c_law_right__Row_kinds, c_law_right__Row___add__, c_law_right__Row_joined, c_law_right__Row_places, c_law_right__Row_least, c_law_right__Row_greatest, c_law_right__Row_total, c_law_right__law_cast, c_law_right__law_pick, c_law_right__law_far_kinds, c_law_right__law_degree_at, c_law_right__law_put, c_law_right__law_raised, c_law_right__law_limit, o_law_right, b_law_right, ed, el, List.length_map, hs, kN, e_kTm, limit_x (show 64 < tot ks by omega), e_int, Row_of_w hg (show ks.length < 1000000 by omega), eq_w]
        have cc := (((c1.trans c3).trans c4).trans c5)
        rw [cc.take]
        exact hq _ cc
  · intro e q
    simp only [List.mem_cons, List.not_mem_nil, or_false] at q
    omega
end
end Lw
namespace Lw
open PySem L2 Sg Rw
local macro_rules | `(tactic| simp_all only [$xs,*]) => `(tactic| simp only [w_non, w_bl, w_int, w_str, w_emp, w_var, w_raw, w_gcon, w_bin, w_neg, w_cmp, w_chain, w_and, w_or, w_not, w_ifx, w_tup, w_lst, w_own, w_dnw, w_call, w_isi, w_mth, w_get, w_sub, w_slc, w_att, w_met, w_mk, w_mks, w_cm, w_lc, w_lc2, w_blt, w_pop, w_ownl, w_cnt, w_cntI, isLst_lst, lstD_lst, w_sset, w_rev, w_fs, wf_nil, wf_cons, sQ_str, w_strf, w_strI, w_strO, d_fmt_int, d_fmt_str, d_notin_lst, d_in_lst, d_bnd_lst, wl_pop, wl_ownl, wl_cnt, wl_sset, wl_rev, wl_fs, wl_strf, wh_nil, wh_cons, h_con, h_att, h_rep, h_cat, h_isi, h_xat, wl_lam, s_rai, s_rai0, tri_next, tri_ret, tri_exc, s_tri, q_repr2, r_bl, r_non, r_int, r_str, r_emp, r_lst, r_tup, s_mat, mQ_none, mQ_some, c_cas, c_nomore, b_nil, b_cons, p_one, p_or, p_seq, p_lit, p_nm, p_wild, p_nil, p_cons, o_nil, o_cons, d_in_tup, d_notin_tup, wl_nil, wl_star, wl_non, wl_bl, wl_int, wl_str, wl_var, wl_raw, wl_gcon, wl_bin, wl_neg, wl_cmp, wl_chain, wl_and, wl_or, wl_not, wl_ite, wl_tup, wl_lst, wl_emp, wl_own, wl_dnw, wl_call, wl_blt, wl_isi, wl_mth, wl_get, wl_sub, wl_slc, wl_att, wl_met, wl_mk, wl_mks, wl_cm, wl_lc, wl_lc2, w_onone, w_osome, wt_val, wt_cmp, wt_chain, wt_not, wt_and, wt_or, wts_nil, wts_cons, wi_val, wi_rng1, wi_rng2, wi_zip, wi_enum, s_asg, s_par, s_put, s_fld, s_app, s_ext, s_ife, s_for, s_ret, s_retN, s_retS, s_expr, s_pass, s_brk, s_cont, ss_nil, ss_cons, thn_next, thn_brk, thn_cont, thn_ret, thn_exc, endN_ret, endN_exc, end_ret, end_next, end_exc, w_frz_non, w_frz_bl, w_frz_int, w_frz_str, w_frz_tup, w_frz_lst, w_frz_rol, w_frz_ins, w_frz_cls, w_frz_dic, wo_some, wo_none, bQ_bl, iQ_int, isi_non_int, isi_non_str, isi_non_tuple, isi_non_list, isi_non_dict, isi_non_bool, isi_non_own, isi_bl_int, isi_bl_str, isi_bl_tuple, isi_bl_list, isi_bl_dict, isi_bl_bool, isi_bl_own, isi_int_int, isi_int_str, isi_int_tuple, isi_int_list, isi_int_dict, isi_int_bool, isi_int_own, isi_str_int, isi_str_str, isi_str_tuple, isi_str_list, isi_str_dict, isi_str_bool, isi_str_own, isi_tup_int, isi_tup_str, isi_tup_tuple, isi_tup_list, isi_tup_dict, isi_tup_bool, isi_tup_own, isi_lst_int, isi_lst_str, isi_lst_tuple, isi_lst_list, isi_lst_dict, isi_lst_bool, isi_lst_own, isi_dic_int, isi_dic_str, isi_dic_tuple, isi_dic_list, isi_dic_dict, isi_dic_bool, isi_dic_own, isi_ins_int, isi_ins_str, isi_ins_tuple, isi_ins_list, isi_ins_dict, isi_ins_bool, isi_ins_own, List.map, Bool.and_true, Bool.true_and, Bool.and_self, eq_self, reduceCtorEq, imp_self, implies_true, forall_const, not_false_eq_true, false_implies, reduceIte, if_true, if_false, wo_ite, w_up, w_rt, w_bd, true_and, and_true, Bool.true_eq_false, Bool.false_eq_true, ite_true, ite_false, startR, List.replicate, List.length_cons, List.length_nil, List.append_nil, List.cons_append, List.nil_append, List.set_cons_zero, List.set_cons_succ, List.getElem?_cons_zero, List.getElem?_cons_succ, List.set, Nat.reduceAdd, Nat.reduceSub, Nat.reduceLeDiff, wipeR, D.nr, D.nrL, metN_ins, opN_ins, w_attI, attQ_some, attQ_none, List.take_length, eq_bl, eq_int, eq_tup, eq_lst, Bool.not_true, Bool.not_false, decide_true, decide_false, Bool.decide_eq_true, w_one1, wo_map, wo_bind, q_bin_non, q_cmp_non, q_sub_non, q_lk_non, q_len_non, q_cmpo_non, q_bin_bl, q_cmp_bl, q_sub_bl, q_lk_bl, q_len_bl, q_cmpo_bl, q_bin_int, q_cmp_int, q_sub_int, q_lk_int, q_len_int, q_cmpo_int, q_bin_str, q_cmp_str, q_sub_str, q_lk_str, q_len_str, q_cmpo_str, q_bin_tup, q_cmp_tup, q_sub_tup, q_lk_tup, q_len_tup, q_cmpo_tup, q_bin_lst, q_cmp_lst, q_sub_lst, q_lk_lst, q_len_lst, q_cmpo_lst, q_bin_dic, q_cmp_dic, q_sub_dic, q_lk_dic, q_len_dic, q_cmpo_dic, q_bin_ref, q_cmp_ref, q_sub_ref, q_len_ref, q_cmpo_ref, q_bin_cls, q_cmp_cls, q_sub_cls, q_lk_cls, q_len_cls, q_cmpo_cls, q_bin_rol, q_cmp_rol, q_sub_rol, q_lk_rol, q_len_rol, q_cmpo_rol, q_lk_ins, q_abs, q_int, q_max2, q_min2, q_all, q_repr, q_any, q_sum, q_sorted, q_tuple, q_list, q_o__lt__, q_o__le__, q_o__gt__, q_o__ge__, q_o__eq__, q_o__add__, q_o__or__, q_osub, d_add_int, d_sub_int, d_mul_int, d_div_int, d_mod_int, d_pow_int, d_add_str, d_add_lst, d_add_tup, d_mul_lst, d_lt_int, d_le_int, d_gt_int, d_ge_int, d_in_dic, d_eq, d_ne, d_is_bl, d_is_non, d_isnot_non, d_tru_bl, d_tru_int, d_tru_tup, d_tru_lst, d_tru_non, d_ix_tup, d_ix_lst, d_ix_rol, d_ix_dic, d_key_int, d_key_str, d_ln_tup, d_ln_lst, d_ln_rol, d_ln_dic, d_ln_str, d_any_lst, d_all_lst, d_sum_lst, d_sorted_lst, d_sorted_dic, d_tuple_lst, d_tuple_tup, d_list_lst, d_list_tup, d_list_dic, d_abs_int, d_int_int, d_int_bl, d_max_int, d_min_int, d_repr_bl, d_repr_lst, d_repr_tup, d_its_lst, d_its_tup, d_sq_lst, d_sq_tup, d_slc_lst, d_slc_tup, d_zip_ll, d_zip_lt, d_zip_tt, d_zip_tl, d_bnd_name, d_bnd_tup, d_bnds_nil, d_dic_y, d_bnds_cons, List.mem_cons, List.not_mem_nil, Nat.reduceEqDiff, or_false, false_or, or_true, true_or, g_0, g_1, g_2, x_0, x_1, x_2, x_3, f_Row_own_kinds, f_Row_own_places, f_Row_kinds, p_Row_kinds, f_Row_places, p_Row_places, f_Row_least, p_Row_least, f_Row_greatest, p_Row_greatest, f_Row_total, p_Row_total, f_Row_degrees, p_Row_degrees, m_Row_degree_at, m_Row_stretches, m_Row_raised, m_Row_joined, m_Row_require_index, m_Row___getitem__, m_Row___add__, m_Row___len__, m_Row___eq__, k_Row_of, $xs,*])
def KW : Kd := [(0, 1000000000000000000000000000000000000)]
def K64 : Kd := [(3, 64)]
def K65 : Kd := [(3, 65)]
def KR : Kd := [(0, 100000000000000000000000000000000000), (5, 900000000000000000000000000000000000)]
theorem gW : Good KW := good_of (by decide +kernel)
theorem g64 : Good K64 := good_of (by decide +kernel)
theorem g65 : Good K65 := good_of (by decide +kernel)
section
variable {μ : Store} {Q : D → Store → Prop} {X : Exc → Store → Prop} {T : Tab}
theorem mkW (hT : T.cls = cls) (hc : callT T 3 = t_Row___init__) : wp (mkT T 0 [.tup [.int 0, .int 1000000000000000000000000000000000000]]) μ Q X = Q (rowD KW) μ := by
  have := mk_row (μ := μ) (Q := Q) (X := X) hT hc gW (by decide)
  exact this
theorem mk64 (hT : T.cls = cls) (hc : callT T 3 = t_Row___init__) : wp (mkT T 0 [.tup [.int 3, .int 64]]) μ Q X = Q (rowD K64) μ := by
  have := mk_row (μ := μ) (Q := Q) (X := X) hT hc g64 (by decide)
  exact this
theorem mk65 (hT : T.cls = cls) (hc : callT T 3 = t_Row___init__) : wp (mkT T 0 [.tup [.int 3, .int 65]]) μ Q X = Q (rowD K65) μ := by
  have := mk_row (μ := μ) (Q := Q) (X := X) hT hc g65 (by decide)
  exact this
theorem lim64 : wp (t_law_limit [rowD K64]) μ Q X = Q (.int 0) μ := limit_0 g64 (by decide +kernel) (by decide)
theorem lim65 : wp (t_law_limit [rowD K65]) μ Q X = Q (.int 64) μ := limit_x (by decide +kernel)
theorem getW : wp (t_Row___getitem__ [rowD KW, .int (1000000000000000000000000000000000000 - 1)]) μ Q X = Q (.int 0) μ := by
  rw [getitem_w gW (by decide) (by decide +kernel), show dg KW (1000000000000000000000000000000000000 - 1) = 0 by decide +kernel]
theorem raisW : wp (t_Row_raised [rowD KW, .int 100000000000000000000000000000000000, .int 5]) μ Q X = Q (rowD KR) μ := by
  rw [raised_w gW (by decide) (by decide) (by decide +kernel) (by decide) (by decide +kernel), show rais KW 100000000000000000000000000000000000 5 = KR by decide +kernel]
theorem w35 : powOk 10 36 = true ∧ powOk 10 35 = true := by decide +kernel
theorem u35 : (10 : Int) ^ Int.toNat 36 = 1000000000000000000000000000000000000 ∧ (10 : Int) ^ Int.toNat 35 = 100000000000000000000000000000000000 := by decide +kernel
theorem m9 : mulOk 9 100000000000000000000000000000000000 = true ∧ (9 : Int) * 100000000000000000000000000000000000 = 900000000000000000000000000000000000 := by decide +kernel
end
theorem law_true (ns : List Int) (hl : ns.length ≤ 63) : ∃ μ, t_law [.rol (ns.map D.int)] [] = some (.ok (.bl true), μ) := by
  have key : wp (t_law [.rol (ns.map D.int)]) [] (fun d _ => d = .bl true) fun _ _ => False := by
    simp_all only [T_law_cls, T_law_cons, c_law__Row___init__, c_law__Row_raised, c_law__Row___getitem__, c_law__Row___len__, c_law__Row___eq__, c_law__Row_kinds, c_law__law_numbers, c_law__law_limit, c_law__law_right, o_law, b_law, List.length_map]
    refine ⟨rng_ok (by omega) (by omega), ?_⟩
    rw [rngD_eq]
    refine for_map (fun (j : Nat) => D.int (0 + (j : Int))) (fun r ρ μ' => (∀ j ∈ r, j ≤ 100) ∧ ∃ x1 x2 x3 x4, ρ = [some (.rol (ns.map D.int)), x1, x2, x3, x4]) ?_ ?_ _ _ _ ⟨fun j hj => by rw [List.mem_range] at hj; omega, _, _, _, _, rfl⟩
    · rintro j r ρ μ' ⟨hj, x1, x2, x3, x4, rfl⟩
      have hj0 := hj j (List.mem_cons_self ..)
      have hjr : ∀ i ∈ r, i ≤ 100 := fun i hi => hj i (List.mem_cons_of_mem _ hi)
      simp_all only [T_law_cls, T_law_cons, c_law__Row___init__, c_law__Row_raised, c_law__Row___getitem__, c_law__Row___len__, c_law__Row___eq__, c_law__Row_kinds, c_law__law_numbers, c_law__law_limit, c_law__law_right, o_law, b_law, Int.zero_add]
      refine num_ok ns j μ' _ _ hj0 fun a b c => ?_
      have dk : IsDie (μ' ++ [.shr [.int a, .int b, .int c]]) μ'.length := ⟨a, b, c, by rw [List.getElem?_append_right (Nat.le_refl _), Nat.sub_self]; rfl⟩
      simp_all only [T_law_cls, T_law_cons, c_law__Row___init__, c_law__Row_raised, c_law__Row___getitem__, c_law__Row___len__, c_law__Row___eq__, c_law__Row_kinds, c_law__law_numbers, c_law__law_limit, c_law__law_right, o_law, b_law, dk.frz]
      refine right_w dk fun ν1 c1 => ?_
      have d1 := c1.die dk
      simp_all only [T_law_cls, T_law_cons, c_law__Row___init__, c_law__Row_raised, c_law__Row___getitem__, c_law__Row___len__, c_law__Row___eq__, c_law__Row_kinds, c_law__law_numbers, c_law__law_limit, c_law__law_right, o_law, b_law, d1.frz]
      refine right_w d1 fun ν2 c2 => ?_
      simp_all only [T_law_cls, T_law_cons, c_law__Row___init__, c_law__Row_raised, c_law__Row___getitem__, c_law__Row___len__, c_law__Row___eq__, c_law__Row_kinds, c_law__law_numbers, c_law__law_limit, c_law__law_right, o_law, b_law]
      exact ⟨hjr, _, _, _, _, rfl⟩
    · rintro ρ ν ⟨_, x1, x2, x3, x4, rfl⟩
      have s2 : 2 ≤ sizeLine := sz (by decide)
      have s1 : 1 ≤ sizeLine := sz (by decide)
      have s4 : 4 ≤ sizeLine := sz (by decide)
      have eF : eqD (.lst [.int 0, .int 64, .int 0, .tup (KR.map pD)]) (.lst [.int 0, .int 64, .int 0, .tup [.tup [.int 0, .int 100000000000000000000000000000000000], .tup [.int 5, .int 900000000000000000000000000000000000]]]) = some true := by decide +kernel
      simp_all only [T_law_cls, T_law_cons, c_law__Row___init__, c_law__Row_raised, c_law__Row___getitem__, c_law__Row___len__, c_law__Row___eq__, c_law__Row_kinds, c_law__law_numbers, c_law__law_limit, c_law__law_right, o_law, b_law, w35, u35, m9, s1, s2, s4, mkW T_law_cls c_law__Row___init__, mk64 T_law_cls c_law__Row___init__, mk65 T_law_cls c_law__Row___init__, lim64, lim65, getW, raisW, kinds_w, eF]
  obtain ⟨a, μ, e, rfl⟩ := w_ok key
  exact ⟨μ, e⟩
end Lw
namespace Lw
open PySem L2 Sg
def top (i : Nat) : Stmt := PySem.Challenge.pw_suredegrees_k04_great_rows.main.body.getD i (.Pass ⟨0, 0, 0, 0⟩)
def topc (i j : Nat) : Stmt := match top i with
  | .ClassDef _ _ _ b _ _ _ _ _ _ _ => b.getD j (.Pass ⟨0, 0, 0, 0⟩)
  | s => s
abbrev s_is_integer : Stmt := top 2
theorem sc_is_integer : FnScope n_is_integer ["value"] (defScope s_is_integer) := ⟨rfl, rfl, rfl, by decide +kernel, rfl, by decide +kernel, by decide +kernel⟩
abbrev s_is_pair : Stmt := top 4
theorem sc_is_pair : FnScope n_is_pair ["value"] (defScope s_is_pair) := ⟨rfl, rfl, rfl, by decide +kernel, rfl, by decide +kernel, by decide +kernel⟩
abbrev s_are_kinds : Stmt := top 14
theorem sc_are_kinds : FnScope n_are_kinds ["value"] (defScope s_are_kinds) := ⟨rfl, rfl, rfl, by decide +kernel, rfl, by decide +kernel, by decide +kernel⟩
abbrev s_Row___init__ : Stmt := topc 16 0
theorem sc_Row___init__ : FnScope n_Row___init__ ["self", "kinds"] (defScope s_Row___init__) := ⟨rfl, rfl, rfl, by decide +kernel, rfl, by decide +kernel, by decide +kernel⟩
abbrev s_gathered : Stmt := top 15
theorem sc_gathered : FnScope n_gathered ["pairs"] (defScope s_gathered) := ⟨rfl, rfl, rfl, by decide +kernel, rfl, by decide +kernel, by decide +kernel⟩
abbrev s_Row_of : Stmt := topc 16 1
theorem sc_Row_of : FnScope n_Row_of ["cls", "kinds"] (defScope s_Row_of) := ⟨rfl, rfl, rfl, by decide +kernel, rfl, by decide +kernel, by decide +kernel⟩
abbrev s_Row_stretches : Stmt := topc 16 11
theorem sc_Row_stretches : FnScope n_Row_stretches ["self"] (defScope s_Row_stretches) := ⟨rfl, rfl, rfl, by decide +kernel, rfl, by decide +kernel, by decide +kernel⟩
abbrev s_is_from : Stmt := top 3
theorem sc_is_from : FnScope n_is_from ["value", "first", "last"] (defScope s_is_from) := ⟨rfl, rfl, rfl, by decide +kernel, rfl, by decide +kernel, by decide +kernel⟩
abbrev s_Row_require_index : Stmt := topc 16 14
theorem sc_Row_require_index : FnScope n_Row_require_index ["self", "index"] (defScope s_Row_require_index) := ⟨rfl, rfl, rfl, by decide +kernel, rfl, by decide +kernel, by decide +kernel⟩
abbrev s_Row_raised : Stmt := topc 16 12
theorem sc_Row_raised : FnScope n_Row_raised ["self", "index", "degree"] (defScope s_Row_raised) := ⟨rfl, rfl, rfl, by decide +kernel, rfl, by decide +kernel, by decide +kernel⟩
abbrev s_Row_degree_at : Stmt := topc 16 9
theorem sc_Row_degree_at : FnScope n_Row_degree_at ["self", "index"] (defScope s_Row_degree_at) := ⟨rfl, rfl, rfl, by decide +kernel, rfl, by decide +kernel, by decide +kernel⟩
abbrev s_Row___getitem__ : Stmt := topc 16 15
theorem sc_Row___getitem__ : FnScope n_Row___getitem__ ["self", "index"] (defScope s_Row___getitem__) := ⟨rfl, rfl, rfl, by decide +kernel, rfl, by decide +kernel, by decide +kernel⟩
abbrev s_Row___len__ : Stmt := topc 16 20
theorem sc_Row___len__ : FnScope n_Row___len__ ["self"] (defScope s_Row___len__) := ⟨rfl, rfl, rfl, by decide +kernel, rfl, by decide +kernel, by decide +kernel⟩
abbrev s_Row___eq__ : Stmt := topc 16 21
theorem sc_Row___eq__ : FnScope n_Row___eq__ ["self", "other"] (defScope s_Row___eq__) := ⟨rfl, rfl, rfl, by decide +kernel, rfl, by decide +kernel, by decide +kernel⟩
abbrev s_Row_kinds : Stmt := topc 16 3
theorem sc_Row_kinds : FnScope n_Row_kinds ["self"] (defScope s_Row_kinds) := ⟨rfl, rfl, rfl, by decide +kernel, rfl, by decide +kernel, by decide +kernel⟩
abbrev s_Row___add__ : Stmt := topc 16 18
theorem sc_Row___add__ : FnScope n_Row___add__ ["self", "other"] (defScope s_Row___add__) := ⟨rfl, rfl, rfl, by decide +kernel, rfl, by decide +kernel, by decide +kernel⟩
abbrev s_law_numbers : Stmt := top 19
theorem sc_law_numbers : FnScope n_law_numbers ["_law_script", "_law_at"] (defScope s_law_numbers) := ⟨rfl, rfl, rfl, by decide +kernel, rfl, by decide +kernel, by decide +kernel⟩
abbrev s_Row_joined : Stmt := topc 16 13
theorem sc_Row_joined : FnScope n_Row_joined ["self", "many"] (defScope s_Row_joined) := ⟨rfl, rfl, rfl, by decide +kernel, rfl, by decide +kernel, by decide +kernel⟩
abbrev s_Row_places : Stmt := topc 16 4
theorem sc_Row_places : FnScope n_Row_places ["self"] (defScope s_Row_places) := ⟨rfl, rfl, rfl, by decide +kernel, rfl, by decide +kernel, by decide +kernel⟩
abbrev s_Row_least : Stmt := topc 16 5
theorem sc_Row_least : FnScope n_Row_least ["self"] (defScope s_Row_least) := ⟨rfl, rfl, rfl, by decide +kernel, rfl, by decide +kernel, by decide +kernel⟩
abbrev s_Row_greatest : Stmt := topc 16 6
theorem sc_Row_greatest : FnScope n_Row_greatest ["self"] (defScope s_Row_greatest) := ⟨rfl, rfl, rfl, by decide +kernel, rfl, by decide +kernel, by decide +kernel⟩
abbrev s_Row_total : Stmt := topc 16 7
theorem sc_Row_total : FnScope n_Row_total ["self"] (defScope s_Row_total) := ⟨rfl, rfl, rfl, by decide +kernel, rfl, by decide +kernel, by decide +kernel⟩
abbrev s_law_cast : Stmt := top 20
theorem sc_law_cast : FnScope n_law_cast ["_law_die", "_law_total"] (defScope s_law_cast) := ⟨rfl, rfl, rfl, by decide +kernel, rfl, by decide +kernel, by decide +kernel⟩
abbrev s_law_pick : Stmt := top 21
theorem sc_law_pick : FnScope n_law_pick ["_law_die", "_law_items"] (defScope s_law_pick) := ⟨rfl, rfl, rfl, by decide +kernel, rfl, by decide +kernel, by decide +kernel⟩
abbrev s_law_far_kinds : Stmt := top 22
theorem sc_law_far_kinds : FnScope n_law_far_kinds ["_law_die"] (defScope s_law_far_kinds) := ⟨rfl, rfl, rfl, by decide +kernel, rfl, by decide +kernel, by decide +kernel⟩
abbrev s_law_degree_at : Stmt := top 23
theorem sc_law_degree_at : FnScope n_law_degree_at ["_law_kinds", "_law_index"] (defScope s_law_degree_at) := ⟨rfl, rfl, rfl, by decide +kernel, rfl, by decide +kernel, by decide +kernel⟩
abbrev s_law_put : Stmt := top 24
theorem sc_law_put : FnScope n_law_put ["_law_pairs"] (defScope s_law_put) := ⟨rfl, rfl, rfl, by decide +kernel, rfl, by decide +kernel, by decide +kernel⟩
abbrev s_law_raised : Stmt := top 25
theorem sc_law_raised : FnScope n_law_raised ["_law_kinds", "_law_index", "_law_degree"] (defScope s_law_raised) := ⟨rfl, rfl, rfl, by decide +kernel, rfl, by decide +kernel, by decide +kernel⟩
abbrev s_Row_degrees : Stmt := topc 16 8
theorem sc_Row_degrees : FnScope n_Row_degrees ["self"] (defScope s_Row_degrees) := ⟨rfl, rfl, rfl, by decide +kernel, rfl, by decide +kernel, by decide +kernel⟩
abbrev s_law_limit : Stmt := top 27
theorem sc_law_limit : FnScope n_law_limit ["_law_row"] (defScope s_law_limit) := ⟨rfl, rfl, rfl, by decide +kernel, rfl, by decide +kernel, by decide +kernel⟩
abbrev s_law_right : Stmt := top 26
theorem sc_law_right : FnScope n_law_right ["_law_die"] (defScope s_law_right) := ⟨rfl, rfl, rfl, by decide +kernel, rfl, by decide +kernel, by decide +kernel⟩
abbrev s_law : Stmt := top 28
theorem sc_law : FnScope n_law ["_law_script"] (defScope s_law) := ⟨rfl, rfl, rfl, by decide +kernel, rfl, by decide +kernel, by decide +kernel⟩
def nmf : List Str := [("is_integer" : Str), ("is_pair" : Str), ("are_kinds" : Str), ("" : Str), ("gathered" : Str), ("" : Str), ("" : Str), ("is_from" : Str), ("" : Str), ("" : Str), ("" : Str), ("" : Str), ("" : Str), ("" : Str), ("" : Str), ("" : Str), ("_law_numbers" : Str), ("" : Str), ("" : Str), ("" : Str), ("" : Str), ("" : Str), ("_law_cast" : Str), ("_law_pick" : Str), ("_law_far_kinds" : Str), ("_law_degree_at" : Str), ("_law_put" : Str), ("_law_raised" : Str), ("" : Str), ("_law_limit" : Str), ("_law_right" : Str), ("law" : Str)]
def nms : Nm := ⟨nmf, ["MAX_ROW", "MAX_JOINED", "MAX_LISTED"], ["Row"], true, ⟨["DegreeError", "InvalidRow", "InvalidNumber", "TooMany"], []⟩⟩
theorem ck_is_integer : chkSs ⟨n_is_integer, defScope s_is_integer, fun _ => true, { nms with gd := false }, true, false⟩ b_is_integer (defBody s_is_integer) = true := by decide +kernel
theorem ck_is_pair : chkSs ⟨n_is_pair, defScope s_is_pair, fun _ => true, { nms with gd := false }, true, false⟩ b_is_pair (defBody s_is_pair) = true := by decide +kernel
theorem ck_are_kinds : chkSs ⟨n_are_kinds, defScope s_are_kinds, fun _ => true, { nms with gd := false }, true, false⟩ b_are_kinds (defBody s_are_kinds) = true := by decide +kernel
theorem ck_Row___init__ : chkSs ⟨n_Row___init__, defScope s_Row___init__, fun _ => true, { nms with gd := false }, true, false⟩ b_Row___init__ (defBody s_Row___init__) = true := by decide +kernel
theorem ck_gathered : chkSs ⟨n_gathered, defScope s_gathered, fun _ => true, { nms with gd := false }, true, false⟩ b_gathered (defBody s_gathered) = true := by decide +kernel
theorem ck_Row_of : chkSs ⟨n_Row_of, defScope s_Row_of, fun _ => true, { nms with gd := false }, true, false⟩ b_Row_of (defBody s_Row_of) = true := by decide +kernel
theorem ck_Row_stretches : chkSs ⟨n_Row_stretches, defScope s_Row_stretches, fun _ => true, { nms with gd := false }, true, false⟩ b_Row_stretches (defBody s_Row_stretches) = true := by decide +kernel
theorem ck_is_from : chkSs ⟨n_is_from, defScope s_is_from, fun _ => true, { nms with gd := false }, true, false⟩ b_is_from (defBody s_is_from) = true := by decide +kernel
theorem ck_Row_require_index : chkSs ⟨n_Row_require_index, defScope s_Row_require_index, fun _ => true, { nms with gd := false }, true, false⟩ b_Row_require_index (defBody s_Row_require_index) = true := by decide +kernel
theorem ck_Row_raised : chkSs ⟨n_Row_raised, defScope s_Row_raised, fun _ => true, { nms with gd := false }, true, false⟩ b_Row_raised (defBody s_Row_raised) = true := by decide +kernel
theorem ck_Row_degree_at : chkSs ⟨n_Row_degree_at, defScope s_Row_degree_at, fun _ => true, { nms with gd := false }, true, false⟩ b_Row_degree_at (defBody s_Row_degree_at) = true := by decide +kernel
theorem ck_Row___getitem__ : chkSs ⟨n_Row___getitem__, defScope s_Row___getitem__, fun _ => true, { nms with gd := false }, true, false⟩ b_Row___getitem__ (defBody s_Row___getitem__) = true := by decide +kernel
theorem ck_Row___len__ : chkSs ⟨n_Row___len__, defScope s_Row___len__, fun _ => true, { nms with gd := false }, true, false⟩ b_Row___len__ (defBody s_Row___len__) = true := by decide +kernel
theorem ck_Row___eq__ : chkSs ⟨n_Row___eq__, defScope s_Row___eq__, fun _ => true, { nms with gd := false }, true, false⟩ b_Row___eq__ (defBody s_Row___eq__) = true := by decide +kernel
theorem ck_Row_kinds : chkSs ⟨n_Row_kinds, defScope s_Row_kinds, fun _ => true, { nms with gd := false }, true, false⟩ b_Row_kinds (defBody s_Row_kinds) = true := by decide +kernel
theorem ck_Row___add__ : chkSs ⟨n_Row___add__, defScope s_Row___add__, fun _ => true, { nms with gd := false }, true, false⟩ b_Row___add__ (defBody s_Row___add__) = true := by decide +kernel
theorem ck_law_numbers : chkSs ⟨n_law_numbers, defScope s_law_numbers, fun _ => true, { nms with gd := false }, true, false⟩ b_law_numbers (defBody s_law_numbers) = true := by decide +kernel
theorem ck_Row_joined : chkSs ⟨n_Row_joined, defScope s_Row_joined, fun _ => true, { nms with gd := false }, true, false⟩ b_Row_joined (defBody s_Row_joined) = true := by decide +kernel
theorem ck_Row_places : chkSs ⟨n_Row_places, defScope s_Row_places, fun _ => true, { nms with gd := false }, true, false⟩ b_Row_places (defBody s_Row_places) = true := by decide +kernel
theorem ck_Row_least : chkSs ⟨n_Row_least, defScope s_Row_least, fun _ => true, { nms with gd := false }, true, false⟩ b_Row_least (defBody s_Row_least) = true := by decide +kernel
theorem ck_Row_greatest : chkSs ⟨n_Row_greatest, defScope s_Row_greatest, fun _ => true, { nms with gd := false }, true, false⟩ b_Row_greatest (defBody s_Row_greatest) = true := by decide +kernel
theorem ck_Row_total : chkSs ⟨n_Row_total, defScope s_Row_total, fun _ => true, { nms with gd := false }, true, false⟩ b_Row_total (defBody s_Row_total) = true := by decide +kernel
theorem ck_law_cast : chkSs ⟨n_law_cast, defScope s_law_cast, fun _ => true, { nms with gd := false }, true, false⟩ b_law_cast (defBody s_law_cast) = true := by decide +kernel
theorem ck_law_pick : chkSs ⟨n_law_pick, defScope s_law_pick, fun _ => true, { nms with gd := false }, true, false⟩ b_law_pick (defBody s_law_pick) = true := by decide +kernel
theorem ck_law_far_kinds : chkSs ⟨n_law_far_kinds, defScope s_law_far_kinds, fun _ => true, { nms with gd := false }, true, false⟩ b_law_far_kinds (defBody s_law_far_kinds) = true := by decide +kernel
theorem ck_law_degree_at : chkSs ⟨n_law_degree_at, defScope s_law_degree_at, fun _ => true, { nms with gd := false }, true, false⟩ b_law_degree_at (defBody s_law_degree_at) = true := by decide +kernel
theorem ck_law_put : chkSs ⟨n_law_put, defScope s_law_put, fun _ => true, { nms with gd := false }, true, false⟩ b_law_put (defBody s_law_put) = true := by decide +kernel
theorem ck_law_raised : chkSs ⟨n_law_raised, defScope s_law_raised, fun _ => true, { nms with gd := false }, true, false⟩ b_law_raised (defBody s_law_raised) = true := by decide +kernel
theorem ck_Row_degrees : chkSs ⟨n_Row_degrees, defScope s_Row_degrees, fun _ => true, { nms with gd := false }, true, false⟩ b_Row_degrees (defBody s_Row_degrees) = true := by decide +kernel
theorem ck_law_limit : chkSs ⟨n_law_limit, defScope s_law_limit, fun _ => true, nms, true, false⟩ b_law_limit (defBody s_law_limit) = true := by decide +kernel
theorem ck_law_right : chkSs ⟨n_law_right, defScope s_law_right, fun _ => true, nms, true, false⟩ b_law_right (defBody s_law_right) = true := by decide +kernel
theorem ck_law : chkSs ⟨n_law, defScope s_law, fun _ => true, nms, true, false⟩ b_law (defBody s_law) = true := by decide +kernel
abbrev s_x2 : Stmt := topc 8 0
def n_x2 : List Str := ["self", "value"]
theorem sc_x2 : FnScope n_x2 ["self", "value"] (defScope s_x2) := ⟨rfl, rfl, rfl, by decide +kernel, rfl, by decide +kernel, by decide +kernel⟩
theorem ck_x2 : chkIni (Str.ofString (bsAt 0).1) "value" "self" "value" (defScope s_x2) (defBody s_x2) = true := by decide +kernel
abbrev s_x3 : Stmt := topc 9 0
def n_x3 : List Str := ["self", "limit"]
theorem sc_x3 : FnScope n_x3 ["self", "limit"] (defScope s_x3) := ⟨rfl, rfl, rfl, by decide +kernel, rfl, by decide +kernel, by decide +kernel⟩
theorem ck_x3 : chkIni (Str.ofString (bsAt 2).1) "limit" "self" "limit" (defScope s_x3) (defBody s_x3) = true := by decide +kernel
def tbs (cs : List (Addr × Addr)) : List (Addr × Str) := List.zipWith (fun p x => (p.2, lname x)) cs []
set_option maxHeartbeats 0 in
theorem all_mk {l : PySem.W.OpenLaw} {w : World} {K : PySem.W.Frag} {h : Heap} {mg : Str → Option Value} {fa : Addr} (X : K.In h) (G : h.Ns mainGlobals mg) (hfa : mg "law" = some (.ref fa))
    {C0 : Addr} (d0 : PySem.W.nsIn K mainGlobals "Row" = some (some (.ref C0)))
    {X0 : Addr} (dx0 : PySem.W.nsIn K mainGlobals "DegreeError" = some (some (.ref X0)))
    {X1 : Addr} (dx1 : PySem.W.nsIn K mainGlobals "InvalidRow" = some (some (.ref X1)))
    {X2 : Addr} (dx2 : PySem.W.nsIn K mainGlobals "InvalidNumber" = some (some (.ref X2)))
    {X3 : Addr} (dx3 : PySem.W.nsIn K mainGlobals "TooMany" = some (some (.ref X3)))
    {odx2 anx2 : Option Addr} {slx2 : Array (Option Value)} {ocx2 kVx2 dcx2 pmx2 cdx2 ctx2 : Value} {fx2 : Addr}
    (ax2 : PySem.W.findIn K (.ref X2) "__init__" = some (some (.ref fx2)))
    (lx2 : K.lookup fx2 = some ⟨ocx2, odx2, .func (PySem.W.fnOf "__init__" "InvalidNumber.__init__" (defArgs s_x2) (defBody s_x2) (defScope s_x2) .none kVx2 dcx2 pmx2 anx2 cdx2 ctx2), slx2⟩) (cx2 : PySem.W.codeIn K cdx2 "InvalidNumber.__init__" = true) (kx2 : PySem.W.keepIn K (.ref fx2) = true)
    {odx3 anx3 : Option Addr} {slx3 : Array (Option Value)} {ocx3 kVx3 dcx3 pmx3 cdx3 ctx3 : Value} {fx3 : Addr}
    (ax3 : PySem.W.findIn K (.ref X3) "__init__" = some (some (.ref fx3)))
    (lx3 : K.lookup fx3 = some ⟨ocx3, odx3, .func (PySem.W.fnOf "__init__" "TooMany.__init__" (defArgs s_x3) (defBody s_x3) (defScope s_x3) .none kVx3 dcx3 pmx3 anx3 cdx3 ctx3), slx3⟩) (cx3 : PySem.W.codeIn K cdx3 "TooMany.__init__" = true) (kx3 : PySem.W.keepIn K (.ref fx3) = true)
    (hx0 : xc0B K X0 = true)
    (hx1 : xc0B K X1 = true)
    (hx2 : xc1B K X2 fx2 "value" 0 = true) (zx2 : PySem.W.nsIn K mainGlobals (Str.ofString (bsAt 0).1) = some none)
    (hx3 : xc1B K X3 fx3 "limit" 2 = true) (zx3 : PySem.W.nsIn K mainGlobals (Str.ofString (bsAt 2).1) = some none)
    (hxm : xmB K [X0, X1, X2, X3] xcs = true)
    {od0 an0 : Option Addr} {sl0 : Array (Option Value)} {oc0 kV0 dc0 pm0 cd0 ct0 : Value} {f0 : Addr}
    (a0 : PySem.W.nsIn K mainGlobals "is_integer" = some (some (.ref f0)))
    (l0 : K.lookup f0 = some ⟨oc0, od0, .func (PySem.W.fnOf "is_integer" "is_integer" (defArgs s_is_integer) (defBody s_is_integer) (defScope s_is_integer) .none kV0 dc0 pm0 an0 cd0 ct0), sl0⟩) (c0 : PySem.W.codeIn K cd0 "is_integer" = true) (k0 : PySem.W.keepIn K (.ref f0) = true)
    {od1 an1 : Option Addr} {sl1 : Array (Option Value)} {oc1 kV1 dc1 pm1 cd1 ct1 : Value} {f1 : Addr}
    (a1 : PySem.W.nsIn K mainGlobals "is_pair" = some (some (.ref f1)))
    (l1 : K.lookup f1 = some ⟨oc1, od1, .func (PySem.W.fnOf "is_pair" "is_pair" (defArgs s_is_pair) (defBody s_is_pair) (defScope s_is_pair) .none kV1 dc1 pm1 an1 cd1 ct1), sl1⟩) (c1 : PySem.W.codeIn K cd1 "is_pair" = true) (k1 : PySem.W.keepIn K (.ref f1) = true)
    {od2 an2 : Option Addr} {sl2 : Array (Option Value)} {oc2 kV2 dc2 pm2 cd2 ct2 : Value} {f2 : Addr}
    (a2 : PySem.W.nsIn K mainGlobals "are_kinds" = some (some (.ref f2)))
    (l2 : K.lookup f2 = some ⟨oc2, od2, .func (PySem.W.fnOf "are_kinds" "are_kinds" (defArgs s_are_kinds) (defBody s_are_kinds) (defScope s_are_kinds) .none kV2 dc2 pm2 an2 cd2 ct2), sl2⟩) (c2 : PySem.W.codeIn K cd2 "are_kinds" = true) (k2 : PySem.W.keepIn K (.ref f2) = true)
    {od3 an3 : Option Addr} {sl3 : Array (Option Value)} {oc3 kV3 dc3 pm3 cd3 ct3 : Value} {f3 : Addr}
    (a3 : PySem.W.findIn K (.ref C0) "__init__" = some (some (.ref f3)))
    (l3 : K.lookup f3 = some ⟨oc3, od3, .func (PySem.W.fnOf "__init__" "Row.__init__" (defArgs s_Row___init__) (defBody s_Row___init__) (defScope s_Row___init__) .none kV3 dc3 pm3 an3 cd3 ct3), sl3⟩) (c3 : PySem.W.codeIn K cd3 "Row.__init__" = true) (k3 : PySem.W.keepIn K (.ref f3) = true)
    {od4 an4 : Option Addr} {sl4 : Array (Option Value)} {oc4 kV4 dc4 pm4 cd4 ct4 : Value} {f4 : Addr}
    (a4 : PySem.W.nsIn K mainGlobals "gathered" = some (some (.ref f4)))
    (l4 : K.lookup f4 = some ⟨oc4, od4, .func (PySem.W.fnOf "gathered" "gathered" (defArgs s_gathered) (defBody s_gathered) (defScope s_gathered) .none kV4 dc4 pm4 an4 cd4 ct4), sl4⟩) (c4 : PySem.W.codeIn K cd4 "gathered" = true) (k4 : PySem.W.keepIn K (.ref f4) = true)
    {od5 an5 : Option Addr} {sl5 : Array (Option Value)} {oc5 kV5 dc5 pm5 cd5 ct5 : Value} {f5 : Addr}
    {p5 : Addr} {t5 : List Value} (a5 : PySem.W.findIn K (.ref C0) "of" = some (some (.ref p5))) (e5 : PySem.W.recIn K p5 "classmethod" = some (.ref f5 :: t5))
    (l5 : K.lookup f5 = some ⟨oc5, od5, .func (PySem.W.fnOf "of" "Row.of" (defArgs s_Row_of) (defBody s_Row_of) (defScope s_Row_of) .none kV5 dc5 pm5 an5 cd5 ct5), sl5⟩) (c5 : PySem.W.codeIn K cd5 "Row.of" = true) (k5 : PySem.W.keepIn K (.ref f5) = true)
    {od6 an6 : Option Addr} {sl6 : Array (Option Value)} {oc6 kV6 dc6 pm6 cd6 ct6 : Value} {f6 : Addr}
    (a6 : PySem.W.findIn K (.ref C0) "stretches" = some (some (.ref f6)))
    (l6 : K.lookup f6 = some ⟨oc6, od6, .func (PySem.W.fnOf "stretches" "Row.stretches" (defArgs s_Row_stretches) (defBody s_Row_stretches) (defScope s_Row_stretches) .none kV6 dc6 pm6 an6 cd6 ct6), sl6⟩) (c6 : PySem.W.codeIn K cd6 "Row.stretches" = true) (k6 : PySem.W.keepIn K (.ref f6) = true)
    {od7 an7 : Option Addr} {sl7 : Array (Option Value)} {oc7 kV7 dc7 pm7 cd7 ct7 : Value} {f7 : Addr}
    (a7 : PySem.W.nsIn K mainGlobals "is_from" = some (some (.ref f7)))
    (l7 : K.lookup f7 = some ⟨oc7, od7, .func (PySem.W.fnOf "is_from" "is_from" (defArgs s_is_from) (defBody s_is_from) (defScope s_is_from) .none kV7 dc7 pm7 an7 cd7 ct7), sl7⟩) (c7 : PySem.W.codeIn K cd7 "is_from" = true) (k7 : PySem.W.keepIn K (.ref f7) = true)
    {od8 an8 : Option Addr} {sl8 : Array (Option Value)} {oc8 kV8 dc8 pm8 cd8 ct8 : Value} {f8 : Addr}
    (a8 : PySem.W.findIn K (.ref C0) "require_index" = some (some (.ref f8)))
    (l8 : K.lookup f8 = some ⟨oc8, od8, .func (PySem.W.fnOf "require_index" "Row.require_index" (defArgs s_Row_require_index) (defBody s_Row_require_index) (defScope s_Row_require_index) .none kV8 dc8 pm8 an8 cd8 ct8), sl8⟩) (c8 : PySem.W.codeIn K cd8 "Row.require_index" = true) (k8 : PySem.W.keepIn K (.ref f8) = true)
    {od9 an9 : Option Addr} {sl9 : Array (Option Value)} {oc9 kV9 dc9 pm9 cd9 ct9 : Value} {f9 : Addr}
    (a9 : PySem.W.findIn K (.ref C0) "raised" = some (some (.ref f9)))
    (l9 : K.lookup f9 = some ⟨oc9, od9, .func (PySem.W.fnOf "raised" "Row.raised" (defArgs s_Row_raised) (defBody s_Row_raised) (defScope s_Row_raised) .none kV9 dc9 pm9 an9 cd9 ct9), sl9⟩) (c9 : PySem.W.codeIn K cd9 "Row.raised" = true) (k9 : PySem.W.keepIn K (.ref f9) = true)
    {od10 an10 : Option Addr} {sl10 : Array (Option Value)} {oc10 kV10 dc10 pm10 cd10 ct10 : Value} {f10 : Addr}
    (a10 : PySem.W.findIn K (.ref C0) "degree_at" = some (some (.ref f10)))
    (l10 : K.lookup f10 = some ⟨oc10, od10, .func (PySem.W.fnOf "degree_at" "Row.degree_at" (defArgs s_Row_degree_at) (defBody s_Row_degree_at) (defScope s_Row_degree_at) .none kV10 dc10 pm10 an10 cd10 ct10), sl10⟩) (c10 : PySem.W.codeIn K cd10 "Row.degree_at" = true) (k10 : PySem.W.keepIn K (.ref f10) = true)
    {od11 an11 : Option Addr} {sl11 : Array (Option Value)} {oc11 kV11 dc11 pm11 cd11 ct11 : Value} {f11 : Addr}
    (a11 : PySem.W.findIn K (.ref C0) "__getitem__" = some (some (.ref f11)))
    (l11 : K.lookup f11 = some ⟨oc11, od11, .func (PySem.W.fnOf "__getitem__" "Row.__getitem__" (defArgs s_Row___getitem__) (defBody s_Row___getitem__) (defScope s_Row___getitem__) .none kV11 dc11 pm11 an11 cd11 ct11), sl11⟩) (c11 : PySem.W.codeIn K cd11 "Row.__getitem__" = true) (k11 : PySem.W.keepIn K (.ref f11) = true)
    {od12 an12 : Option Addr} {sl12 : Array (Option Value)} {oc12 kV12 dc12 pm12 cd12 ct12 : Value} {f12 : Addr}
    (a12 : PySem.W.findIn K (.ref C0) "__len__" = some (some (.ref f12)))
    (l12 : K.lookup f12 = some ⟨oc12, od12, .func (PySem.W.fnOf "__len__" "Row.__len__" (defArgs s_Row___len__) (defBody s_Row___len__) (defScope s_Row___len__) .none kV12 dc12 pm12 an12 cd12 ct12), sl12⟩) (c12 : PySem.W.codeIn K cd12 "Row.__len__" = true) (k12 : PySem.W.keepIn K (.ref f12) = true)
    {od13 an13 : Option Addr} {sl13 : Array (Option Value)} {oc13 kV13 dc13 pm13 cd13 ct13 : Value} {f13 : Addr}
    (a13 : PySem.W.findIn K (.ref C0) "__eq__" = some (some (.ref f13)))
    (l13 : K.lookup f13 = some ⟨oc13, od13, .func (PySem.W.fnOf "__eq__" "Row.__eq__" (defArgs s_Row___eq__) (defBody s_Row___eq__) (defScope s_Row___eq__) .none kV13 dc13 pm13 an13 cd13 ct13), sl13⟩) (c13 : PySem.W.codeIn K cd13 "Row.__eq__" = true) (k13 : PySem.W.keepIn K (.ref f13) = true)
    {od14 an14 : Option Addr} {sl14 : Array (Option Value)} {oc14 kV14 dc14 pm14 cd14 ct14 : Value} {f14 : Addr}
    {p14 : Addr} {t14 : List Value} (a14 : PySem.W.findIn K (.ref C0) "kinds" = some (some (.ref p14))) (e14 : PySem.W.recIn K p14 "property" = some (.ref f14 :: t14))
    (l14 : K.lookup f14 = some ⟨oc14, od14, .func (PySem.W.fnOf "kinds" "Row.kinds" (defArgs s_Row_kinds) (defBody s_Row_kinds) (defScope s_Row_kinds) .none kV14 dc14 pm14 an14 cd14 ct14), sl14⟩) (c14 : PySem.W.codeIn K cd14 "Row.kinds" = true) (k14 : PySem.W.keepIn K (.ref f14) = true)
    {od15 an15 : Option Addr} {sl15 : Array (Option Value)} {oc15 kV15 dc15 pm15 cd15 ct15 : Value} {f15 : Addr}
    (a15 : PySem.W.findIn K (.ref C0) "__add__" = some (some (.ref f15)))
    (l15 : K.lookup f15 = some ⟨oc15, od15, .func (PySem.W.fnOf "__add__" "Row.__add__" (defArgs s_Row___add__) (defBody s_Row___add__) (defScope s_Row___add__) .none kV15 dc15 pm15 an15 cd15 ct15), sl15⟩) (c15 : PySem.W.codeIn K cd15 "Row.__add__" = true) (k15 : PySem.W.keepIn K (.ref f15) = true)
    {od16 an16 : Option Addr} {sl16 : Array (Option Value)} {oc16 kV16 dc16 pm16 cd16 ct16 : Value} {f16 : Addr}
    (a16 : PySem.W.nsIn K mainGlobals "_law_numbers" = some (some (.ref f16)))
    (l16 : K.lookup f16 = some ⟨oc16, od16, .func (PySem.W.fnOf "_law_numbers" "_law_numbers" (defArgs s_law_numbers) (defBody s_law_numbers) (defScope s_law_numbers) .none kV16 dc16 pm16 an16 cd16 ct16), sl16⟩) (c16 : PySem.W.codeIn K cd16 "_law_numbers" = true) (k16 : PySem.W.keepIn K (.ref f16) = true)
    {od17 an17 : Option Addr} {sl17 : Array (Option Value)} {oc17 kV17 dc17 pm17 cd17 ct17 : Value} {f17 : Addr}
    (a17 : PySem.W.findIn K (.ref C0) "joined" = some (some (.ref f17)))
    (l17 : K.lookup f17 = some ⟨oc17, od17, .func (PySem.W.fnOf "joined" "Row.joined" (defArgs s_Row_joined) (defBody s_Row_joined) (defScope s_Row_joined) .none kV17 dc17 pm17 an17 cd17 ct17), sl17⟩) (c17 : PySem.W.codeIn K cd17 "Row.joined" = true) (k17 : PySem.W.keepIn K (.ref f17) = true)
    {od18 an18 : Option Addr} {sl18 : Array (Option Value)} {oc18 kV18 dc18 pm18 cd18 ct18 : Value} {f18 : Addr}
    {p18 : Addr} {t18 : List Value} (a18 : PySem.W.findIn K (.ref C0) "places" = some (some (.ref p18))) (e18 : PySem.W.recIn K p18 "property" = some (.ref f18 :: t18))
    (l18 : K.lookup f18 = some ⟨oc18, od18, .func (PySem.W.fnOf "places" "Row.places" (defArgs s_Row_places) (defBody s_Row_places) (defScope s_Row_places) .none kV18 dc18 pm18 an18 cd18 ct18), sl18⟩) (c18 : PySem.W.codeIn K cd18 "Row.places" = true) (k18 : PySem.W.keepIn K (.ref f18) = true)
    {od19 an19 : Option Addr} {sl19 : Array (Option Value)} {oc19 kV19 dc19 pm19 cd19 ct19 : Value} {f19 : Addr}
    {p19 : Addr} {t19 : List Value} (a19 : PySem.W.findIn K (.ref C0) "least" = some (some (.ref p19))) (e19 : PySem.W.recIn K p19 "property" = some (.ref f19 :: t19))
    (l19 : K.lookup f19 = some ⟨oc19, od19, .func (PySem.W.fnOf "least" "Row.least" (defArgs s_Row_least) (defBody s_Row_least) (defScope s_Row_least) .none kV19 dc19 pm19 an19 cd19 ct19), sl19⟩) (c19 : PySem.W.codeIn K cd19 "Row.least" = true) (k19 : PySem.W.keepIn K (.ref f19) = true)
    {od20 an20 : Option Addr} {sl20 : Array (Option Value)} {oc20 kV20 dc20 pm20 cd20 ct20 : Value} {f20 : Addr}
    {p20 : Addr} {t20 : List Value} (a20 : PySem.W.findIn K (.ref C0) "greatest" = some (some (.ref p20))) (e20 : PySem.W.recIn K p20 "property" = some (.ref f20 :: t20))
    (l20 : K.lookup f20 = some ⟨oc20, od20, .func (PySem.W.fnOf "greatest" "Row.greatest" (defArgs s_Row_greatest) (defBody s_Row_greatest) (defScope s_Row_greatest) .none kV20 dc20 pm20 an20 cd20 ct20), sl20⟩) (c20 : PySem.W.codeIn K cd20 "Row.greatest" = true) (k20 : PySem.W.keepIn K (.ref f20) = true)
    {od21 an21 : Option Addr} {sl21 : Array (Option Value)} {oc21 kV21 dc21 pm21 cd21 ct21 : Value} {f21 : Addr}
    {p21 : Addr} {t21 : List Value} (a21 : PySem.W.findIn K (.ref C0) "total" = some (some (.ref p21))) (e21 : PySem.W.recIn K p21 "property" = some (.ref f21 :: t21))
    (l21 : K.lookup f21 = some ⟨oc21, od21, .func (PySem.W.fnOf "total" "Row.total" (defArgs s_Row_total) (defBody s_Row_total) (defScope s_Row_total) .none kV21 dc21 pm21 an21 cd21 ct21), sl21⟩) (c21 : PySem.W.codeIn K cd21 "Row.total" = true) (k21 : PySem.W.keepIn K (.ref f21) = true)
    {od22 an22 : Option Addr} {sl22 : Array (Option Value)} {oc22 kV22 dc22 pm22 cd22 ct22 : Value} {f22 : Addr}
    (a22 : PySem.W.nsIn K mainGlobals "_law_cast" = some (some (.ref f22)))
    (l22 : K.lookup f22 = some ⟨oc22, od22, .func (PySem.W.fnOf "_law_cast" "_law_cast" (defArgs s_law_cast) (defBody s_law_cast) (defScope s_law_cast) .none kV22 dc22 pm22 an22 cd22 ct22), sl22⟩) (c22 : PySem.W.codeIn K cd22 "_law_cast" = true) (k22 : PySem.W.keepIn K (.ref f22) = true)
    {od23 an23 : Option Addr} {sl23 : Array (Option Value)} {oc23 kV23 dc23 pm23 cd23 ct23 : Value} {f23 : Addr}
    (a23 : PySem.W.nsIn K mainGlobals "_law_pick" = some (some (.ref f23)))
    (l23 : K.lookup f23 = some ⟨oc23, od23, .func (PySem.W.fnOf "_law_pick" "_law_pick" (defArgs s_law_pick) (defBody s_law_pick) (defScope s_law_pick) .none kV23 dc23 pm23 an23 cd23 ct23), sl23⟩) (c23 : PySem.W.codeIn K cd23 "_law_pick" = true) (k23 : PySem.W.keepIn K (.ref f23) = true)
    {od24 an24 : Option Addr} {sl24 : Array (Option Value)} {oc24 kV24 dc24 pm24 cd24 ct24 : Value} {f24 : Addr}
    (a24 : PySem.W.nsIn K mainGlobals "_law_far_kinds" = some (some (.ref f24)))
    (l24 : K.lookup f24 = some ⟨oc24, od24, .func (PySem.W.fnOf "_law_far_kinds" "_law_far_kinds" (defArgs s_law_far_kinds) (defBody s_law_far_kinds) (defScope s_law_far_kinds) .none kV24 dc24 pm24 an24 cd24 ct24), sl24⟩) (c24 : PySem.W.codeIn K cd24 "_law_far_kinds" = true) (k24 : PySem.W.keepIn K (.ref f24) = true)
    {od25 an25 : Option Addr} {sl25 : Array (Option Value)} {oc25 kV25 dc25 pm25 cd25 ct25 : Value} {f25 : Addr}
    (a25 : PySem.W.nsIn K mainGlobals "_law_degree_at" = some (some (.ref f25)))
    (l25 : K.lookup f25 = some ⟨oc25, od25, .func (PySem.W.fnOf "_law_degree_at" "_law_degree_at" (defArgs s_law_degree_at) (defBody s_law_degree_at) (defScope s_law_degree_at) .none kV25 dc25 pm25 an25 cd25 ct25), sl25⟩) (c25 : PySem.W.codeIn K cd25 "_law_degree_at" = true) (k25 : PySem.W.keepIn K (.ref f25) = true)
    {od26 an26 : Option Addr} {sl26 : Array (Option Value)} {oc26 kV26 dc26 pm26 cd26 ct26 : Value} {f26 : Addr}
    (a26 : PySem.W.nsIn K mainGlobals "_law_put" = some (some (.ref f26)))
    (l26 : K.lookup f26 = some ⟨oc26, od26, .func (PySem.W.fnOf "_law_put" "_law_put" (defArgs s_law_put) (defBody s_law_put) (defScope s_law_put) .none kV26 dc26 pm26 an26 cd26 ct26), sl26⟩) (c26 : PySem.W.codeIn K cd26 "_law_put" = true) (k26 : PySem.W.keepIn K (.ref f26) = true)
    {od27 an27 : Option Addr} {sl27 : Array (Option Value)} {oc27 kV27 dc27 pm27 cd27 ct27 : Value} {f27 : Addr}
    (a27 : PySem.W.nsIn K mainGlobals "_law_raised" = some (some (.ref f27)))
    (l27 : K.lookup f27 = some ⟨oc27, od27, .func (PySem.W.fnOf "_law_raised" "_law_raised" (defArgs s_law_raised) (defBody s_law_raised) (defScope s_law_raised) .none kV27 dc27 pm27 an27 cd27 ct27), sl27⟩) (c27 : PySem.W.codeIn K cd27 "_law_raised" = true) (k27 : PySem.W.keepIn K (.ref f27) = true)
    {od28 an28 : Option Addr} {sl28 : Array (Option Value)} {oc28 kV28 dc28 pm28 cd28 ct28 : Value} {f28 : Addr}
    {p28 : Addr} {t28 : List Value} (a28 : PySem.W.findIn K (.ref C0) "degrees" = some (some (.ref p28))) (e28 : PySem.W.recIn K p28 "property" = some (.ref f28 :: t28))
    (l28 : K.lookup f28 = some ⟨oc28, od28, .func (PySem.W.fnOf "degrees" "Row.degrees" (defArgs s_Row_degrees) (defBody s_Row_degrees) (defScope s_Row_degrees) .none kV28 dc28 pm28 an28 cd28 ct28), sl28⟩) (c28 : PySem.W.codeIn K cd28 "Row.degrees" = true) (k28 : PySem.W.keepIn K (.ref f28) = true)
    {od29 an29 : Option Addr} {sl29 : Array (Option Value)} {oc29 kV29 dc29 pm29 cd29 ct29 : Value} {f29 : Addr}
    (a29 : PySem.W.nsIn K mainGlobals "_law_limit" = some (some (.ref f29)))
    (l29 : K.lookup f29 = some ⟨oc29, od29, .func (PySem.W.fnOf "_law_limit" "_law_limit" (defArgs s_law_limit) (defBody s_law_limit) (defScope s_law_limit) .none kV29 dc29 pm29 an29 cd29 ct29), sl29⟩) (c29 : PySem.W.codeIn K cd29 "_law_limit" = true) (k29 : PySem.W.keepIn K (.ref f29) = true)
    {od30 an30 : Option Addr} {sl30 : Array (Option Value)} {oc30 kV30 dc30 pm30 cd30 ct30 : Value} {f30 : Addr}
    (a30 : PySem.W.nsIn K mainGlobals "_law_right" = some (some (.ref f30)))
    (l30 : K.lookup f30 = some ⟨oc30, od30, .func (PySem.W.fnOf "_law_right" "_law_right" (defArgs s_law_right) (defBody s_law_right) (defScope s_law_right) .none kV30 dc30 pm30 an30 cd30 ct30), sl30⟩) (c30 : PySem.W.codeIn K cd30 "_law_right" = true) (k30 : PySem.W.keepIn K (.ref f30) = true)
    {od31 an31 : Option Addr} {sl31 : Array (Option Value)} {oc31 kV31 dc31 pm31 cd31 ct31 : Value} {f31 : Addr}
    (a31 : PySem.W.nsIn K mainGlobals "law" = some (some (.ref f31)))
    (l31 : K.lookup f31 = some ⟨oc31, od31, .func (PySem.W.fnOf "law" "law" (defArgs s_law) (defBody s_law) (defScope s_law) .none kV31 dc31 pm31 an31 cd31 ct31), sl31⟩) (c31 : PySem.W.codeIn K cd31 "law" = true) (k31 : PySem.W.keepIn K (.ref f31) = true)
    {u0 : Value} (g0 : PySem.W.nsIn K mainGlobals "MAX_ROW" = some (some u0)) (r0 : conB K u0 (cs.getD 0 .non) = true)
    {u1 : Value} (g1 : PySem.W.nsIn K mainGlobals "MAX_JOINED" = some (some u1)) (r1 : conB K u1 (cs.getD 1 .non) = true)
    {u2 : Value} (g2 : PySem.W.nsIn K mainGlobals "MAX_LISTED" = some (some u2)) (r2 : conB K u2 (cs.getD 2 .non) = true)
    (z0 : PySem.W.nsIn K mainGlobals "len" = some none)
    (z1 : PySem.W.nsIn K mainGlobals "abs" = some none)
    (z2 : PySem.W.nsIn K mainGlobals "int" = some none)
    (z3 : PySem.W.nsIn K mainGlobals "max" = some none)
    (z4 : PySem.W.nsIn K mainGlobals "min" = some none)
    (z5 : PySem.W.nsIn K mainGlobals "all" = some none)
    (z6 : PySem.W.nsIn K mainGlobals "repr" = some none)
    (z7 : PySem.W.nsIn K mainGlobals "isinstance" = some none)
    (z8 : PySem.W.nsIn K mainGlobals "range" = some none)
    (z9 : PySem.W.nsIn K mainGlobals "str" = some none)
    (z10 : PySem.W.nsIn K mainGlobals "tuple" = some none)
    (z11 : PySem.W.nsIn K mainGlobals "list" = some none)
    (z12 : PySem.W.nsIn K mainGlobals "dict" = some none)
    (z13 : PySem.W.nsIn K mainGlobals "bool" = some none)
    (z14 : PySem.W.nsIn K mainGlobals "sum" = some none)
    (z15 : PySem.W.nsIn K mainGlobals "any" = some none)
    (z16 : PySem.W.nsIn K mainGlobals "sorted" = some none)
    (z17 : PySem.W.nsIn K mainGlobals "zip" = some none)
    (z18 : PySem.W.nsIn K mainGlobals "enumerate" = some none)
    (z19 : PySem.W.nsIn K mainGlobals "set" = some none)
    (hnd : decide (([] : List Addr).Nodup) = true)
    (hcl : allB K [C0] cls [f0, f1, f2, f3, f4, f5, f6, f7, f8, f9, f10, f11, f12, f13, f14, f15, f16, f17, f18, f19, f20, f21, f22, f23, f24, f25, f26, f27, f28, f29, f30, f31] = true)
    : ∃ cs, TabsAt K mg [] cs ∧ ∀ base : Heap, K.In base → base.Ns mainGlobals mg → (∀ p ∈ cs, LamX.TabB base mg p.1 p.2) → FnP true l.prog w K mg base 65 fa (Prm ⟨K, clsOf [C0] cls, excOf [X0, X1, X2, X3] xcs, tbs cs⟩ t_law) := by
  have e := hfa.symm.trans (PySem.W.mg_of X G a31)
  cases e
  refine ⟨[], .nil, fun base _ _ hTB => ?_⟩
  have F0 := fun_mk (st := s_is_integer) l0 c0 k0
  have b0 := F0.binds (ps := ["value"]) fun _ _ _ _ _ _ us hl => match us, hl with | [_], _ => rfl
  have F1 := fun_mk (st := s_is_pair) l1 c1 k1
  have b1 := F1.binds (ps := ["value"]) fun _ _ _ _ _ _ us hl => match us, hl with | [_], _ => rfl
  have F2 := fun_mk (st := s_are_kinds) l2 c2 k2
  have b2 := F2.binds (ps := ["value"]) fun _ _ _ _ _ _ us hl => match us, hl with | [_], _ => rfl
  have F3 := fun_mk (st := s_Row___init__) l3 c3 k3
  have F4 := fun_mk (st := s_gathered) l4 c4 k4
  have b4 := F4.binds (ps := ["pairs"]) fun _ _ _ _ _ _ us hl => match us, hl with | [_], _ => rfl
  have F5 := fun_mk (st := s_Row_of) l5 c5 k5
  have b5 := F5.binds (ps := ["cls", "kinds"]) fun _ _ _ _ _ _ us hl => match us, hl with | [_, _], _ => rfl
  have F6 := fun_mk (st := s_Row_stretches) l6 c6 k6
  have b6 := F6.binds (ps := ["self"]) fun _ _ _ _ _ _ us hl => match us, hl with | [_], _ => rfl
  have F7 := fun_mk (st := s_is_from) l7 c7 k7
  have b7 := F7.binds (ps := ["value", "first", "last"]) fun _ _ _ _ _ _ us hl => match us, hl with | [_, _, _], _ => rfl
  have F8 := fun_mk (st := s_Row_require_index) l8 c8 k8
  have b8 := F8.binds (ps := ["self", "index"]) fun _ _ _ _ _ _ us hl => match us, hl with | [_, _], _ => rfl
  have F9 := fun_mk (st := s_Row_raised) l9 c9 k9
  have b9 := F9.binds (ps := ["self", "index", "degree"]) fun _ _ _ _ _ _ us hl => match us, hl with | [_, _, _], _ => rfl
  have F10 := fun_mk (st := s_Row_degree_at) l10 c10 k10
  have b10 := F10.binds (ps := ["self", "index"]) fun _ _ _ _ _ _ us hl => match us, hl with | [_, _], _ => rfl
  have F11 := fun_mk (st := s_Row___getitem__) l11 c11 k11
  have b11 := F11.binds (ps := ["self", "index"]) fun _ _ _ _ _ _ us hl => match us, hl with | [_, _], _ => rfl
  have F12 := fun_mk (st := s_Row___len__) l12 c12 k12
  have b12 := F12.binds (ps := ["self"]) fun _ _ _ _ _ _ us hl => match us, hl with | [_], _ => rfl
  have F13 := fun_mk (st := s_Row___eq__) l13 c13 k13
  have b13 := F13.binds (ps := ["self", "other"]) fun _ _ _ _ _ _ us hl => match us, hl with | [_, _], _ => rfl
  have F14 := fun_mk (st := s_Row_kinds) l14 c14 k14
  have b14 := F14.binds (ps := ["self"]) fun _ _ _ _ _ _ us hl => match us, hl with | [_], _ => rfl
  have F15 := fun_mk (st := s_Row___add__) l15 c15 k15
  have b15 := F15.binds (ps := ["self", "other"]) fun _ _ _ _ _ _ us hl => match us, hl with | [_, _], _ => rfl
  have F16 := fun_mk (st := s_law_numbers) l16 c16 k16
  have b16 := F16.binds (ps := ["_law_script", "_law_at"]) fun _ _ _ _ _ _ us hl => match us, hl with | [_, _], _ => rfl
  have F17 := fun_mk (st := s_Row_joined) l17 c17 k17
  have b17 := F17.binds (ps := ["self", "many"]) fun _ _ _ _ _ _ us hl => match us, hl with | [_, _], _ => rfl
  have F18 := fun_mk (st := s_Row_places) l18 c18 k18
  have b18 := F18.binds (ps := ["self"]) fun _ _ _ _ _ _ us hl => match us, hl with | [_], _ => rfl
  have F19 := fun_mk (st := s_Row_least) l19 c19 k19
  have b19 := F19.binds (ps := ["self"]) fun _ _ _ _ _ _ us hl => match us, hl with | [_], _ => rfl
  have F20 := fun_mk (st := s_Row_greatest) l20 c20 k20
  have b20 := F20.binds (ps := ["self"]) fun _ _ _ _ _ _ us hl => match us, hl with | [_], _ => rfl
  have F21 := fun_mk (st := s_Row_total) l21 c21 k21
  have b21 := F21.binds (ps := ["self"]) fun _ _ _ _ _ _ us hl => match us, hl with | [_], _ => rfl
  have F22 := fun_mk (st := s_law_cast) l22 c22 k22
  have b22 := F22.binds (ps := ["_law_die", "_law_total"]) fun _ _ _ _ _ _ us hl => match us, hl with | [_, _], _ => rfl
  have F23 := fun_mk (st := s_law_pick) l23 c23 k23
  have b23 := F23.binds (ps := ["_law_die", "_law_items"]) fun _ _ _ _ _ _ us hl => match us, hl with | [_, _], _ => rfl
  have F24 := fun_mk (st := s_law_far_kinds) l24 c24 k24
  have b24 := F24.binds (ps := ["_law_die"]) fun _ _ _ _ _ _ us hl => match us, hl with | [_], _ => rfl
  have F25 := fun_mk (st := s_law_degree_at) l25 c25 k25
  have b25 := F25.binds (ps := ["_law_kinds", "_law_index"]) fun _ _ _ _ _ _ us hl => match us, hl with | [_, _], _ => rfl
  have F26 := fun_mk (st := s_law_put) l26 c26 k26
  have b26 := F26.binds (ps := ["_law_pairs"]) fun _ _ _ _ _ _ us hl => match us, hl with | [_], _ => rfl
  have F27 := fun_mk (st := s_law_raised) l27 c27 k27
  have b27 := F27.binds (ps := ["_law_kinds", "_law_index", "_law_degree"]) fun _ _ _ _ _ _ us hl => match us, hl with | [_, _, _], _ => rfl
  have F28 := fun_mk (st := s_Row_degrees) l28 c28 k28
  have b28 := F28.binds (ps := ["self"]) fun _ _ _ _ _ _ us hl => match us, hl with | [_], _ => rfl
  have F29 := fun_mk (st := s_law_limit) l29 c29 k29
  have b29 := F29.binds (ps := ["_law_row"]) fun _ _ _ _ _ _ us hl => match us, hl with | [_], _ => rfl
  have F30 := fun_mk (st := s_law_right) l30 c30 k30
  have b30 := F30.binds (ps := ["_law_die"]) fun _ _ _ _ _ _ us hl => match us, hl with | [_], _ => rfl
  have F31 := fun_mk (st := s_law) l31 c31 k31
  have b31 := F31.binds (ps := ["_law_script"]) fun _ _ _ _ _ _ us hl => match us, hl with | [_], _ => rfl
  have Fx2 := fun_mk (st := s_x2) lx2 cx2 kx2
  have bx2 := Fx2.binds (ps := ["self", "value"]) fun _ _ _ _ _ _ us hl => match us, hl with | [_, _], _ => rfl
  have Fx3 := fun_mk (st := s_x3) lx3 cx3 kx3
  have bx3 := Fx3.binds (ps := ["self", "limit"]) fun _ _ _ _ _ _ us hl => match us, hl with | [_, _], _ => rfl
  have zb : ∀ x ∈ bltNames, mg x = none := fun x hx => by
    simp only [bltNames, List.mem_cons, List.not_mem_nil, or_false] at hx
    rcases hx with rfl | rfl | rfl | rfl | rfl | rfl | rfl | rfl | rfl | rfl | rfl | rfl | rfl | rfl | rfl | rfl | rfl | rfl | rfl | rfl
    · exact PySem.W.mg_none_of X G z0
    · exact PySem.W.mg_none_of X G z1
    · exact PySem.W.mg_none_of X G z2
    · exact PySem.W.mg_none_of X G z3
    · exact PySem.W.mg_none_of X G z4
    · exact PySem.W.mg_none_of X G z5
    · exact PySem.W.mg_none_of X G z6
    · exact PySem.W.mg_none_of X G z7
    · exact PySem.W.mg_none_of X G z8
    · exact PySem.W.mg_none_of X G z9
    · exact PySem.W.mg_none_of X G z10
    · exact PySem.W.mg_none_of X G z11
    · exact PySem.W.mg_none_of X G z12
    · exact PySem.W.mg_none_of X G z13
    · exact PySem.W.mg_none_of X G z14
    · exact PySem.W.mg_none_of X G z15
    · exact PySem.W.mg_none_of X G z16
    · exact PySem.W.mg_none_of X G z17
    · exact PySem.W.mg_none_of X G z18
    · exact PySem.W.mg_none_of X G z19
  have xt : XtOk ⟨true, l.prog, w, mg, base, ⟨K, clsOf [C0] cls, excOf [X0, X1, X2, X3] xcs, []⟩, 1, [f0, f1, f2, f3, f4, f5, f6, f7, f8, f9, f10, f11, f12, f13, f14, f15, f16, f17, f18, f19, f20, f21, f22, f23, f24, f25, f26, f27, f28, f29, f30, fa]⟩ ⟨[], cats, xcs⟩ nms.x := by
    refine xt_mk (Cs := [X0, X1, X2, X3]) (fun c k e => ?_) rfl rfl hxm (fun i c e => ?_)
    · match c, e with
      | 0, e => cases e; exact ⟨_, X0, rfl, xc0_ok (PySem.W.mg_of X G dx0) rfl hx0⟩
      | 1, e => cases e; exact ⟨_, X1, rfl, xc0_ok (PySem.W.mg_of X G dx1) rfl hx1⟩
      | 2, e => cases e; exact ⟨_, X2, rfl, xc1_ok (b := 0) (p := "self") (q := "value") (PySem.W.mg_of X G dx2) rfl hx2 Fx2 sc_x2 bx2 (PySem.W.mg_none_of X G zx2) ck_x2⟩
      | 3, e => cases e; exact ⟨_, X3, rfl, xc1_ok (b := 2) (p := "self") (q := "limit") (PySem.W.mg_of X G dx3) rfl hx3 Fx3 sc_x3 bx3 (PySem.W.mg_none_of X G zx3) ck_x3⟩
      | n + 4, e => cases e
    · match i, e with
      | n + 0, e => cases e
  have o0 : FnsOk ⟨true, l.prog, w, mg, base, ⟨K, clsOf [C0] cls, excOf [X0, X1, X2, X3] xcs, []⟩, 1, [f0, f1, f2, f3, f4, f5, f6, f7, f8, f9, f10, f11, f12, f13, f14, f15, f16, f17, f18, f19, f20, f21, f22, f23, f24, f25, f26, f27, f28, f29, f30, fa]⟩ ⟨[], cs, cls, ⟨[], cats, xcs⟩⟩ nms := by
    refine fns0 hcl (fun i x e hne => ?_) (fun i d x e1 e2 => ?_) (fun c x e => ?_) zb (fun _ => rfl) xt
    · match i, e with
      | 0, e => cases e; exact ⟨f0, rfl, PySem.W.mg_of X G a0, k0⟩
      | 1, e => cases e; exact ⟨f1, rfl, PySem.W.mg_of X G a1, k1⟩
      | 2, e => cases e; exact ⟨f2, rfl, PySem.W.mg_of X G a2, k2⟩
      | 3, e => cases e; exact absurd rfl hne
      | 4, e => cases e; exact ⟨f4, rfl, PySem.W.mg_of X G a4, k4⟩
      | 5, e => cases e; exact absurd rfl hne
      | 6, e => cases e; exact absurd rfl hne
      | 7, e => cases e; exact ⟨f7, rfl, PySem.W.mg_of X G a7, k7⟩
      | 8, e => cases e; exact absurd rfl hne
      | 9, e => cases e; exact absurd rfl hne
      | 10, e => cases e; exact absurd rfl hne
      | 11, e => cases e; exact absurd rfl hne
      | 12, e => cases e; exact absurd rfl hne
      | 13, e => cases e; exact absurd rfl hne
      | 14, e => cases e; exact absurd rfl hne
      | 15, e => cases e; exact absurd rfl hne
      | 16, e => cases e; exact ⟨f16, rfl, PySem.W.mg_of X G a16, k16⟩
      | 17, e => cases e; exact absurd rfl hne
      | 18, e => cases e; exact absurd rfl hne
      | 19, e => cases e; exact absurd rfl hne
      | 20, e => cases e; exact absurd rfl hne
      | 21, e => cases e; exact absurd rfl hne
      | 22, e => cases e; exact ⟨f22, rfl, PySem.W.mg_of X G a22, k22⟩
      | 23, e => cases e; exact ⟨f23, rfl, PySem.W.mg_of X G a23, k23⟩
      | 24, e => cases e; exact ⟨f24, rfl, PySem.W.mg_of X G a24, k24⟩
      | 25, e => cases e; exact ⟨f25, rfl, PySem.W.mg_of X G a25, k25⟩
      | 26, e => cases e; exact ⟨f26, rfl, PySem.W.mg_of X G a26, k26⟩
      | 27, e => cases e; exact ⟨f27, rfl, PySem.W.mg_of X G a27, k27⟩
      | 28, e => cases e; exact absurd rfl hne
      | 29, e => cases e; exact ⟨f29, rfl, PySem.W.mg_of X G a29, k29⟩
      | 30, e => cases e; exact ⟨f30, rfl, PySem.W.mg_of X G a30, k30⟩
      | 31, e => cases e; exact ⟨fa, rfl, PySem.W.mg_of X G a31, k31⟩
      | n + 32, e => cases e
    · match i, e1, e2 with
      | 0, e1, e2 =>
        obtain ⟨v, q1, q2⟩ := conB_ok r0
        cases e1
        cases e2
        exact ⟨u0, v, PySem.W.mg_of X G g0, q1, fun F m => q2 _ rfl F m⟩
      | 1, e1, e2 =>
        obtain ⟨v, q1, q2⟩ := conB_ok r1
        cases e1
        cases e2
        exact ⟨u1, v, PySem.W.mg_of X G g1, q1, fun F m => q2 _ rfl F m⟩
      | 2, e1, e2 =>
        obtain ⟨v, q1, q2⟩ := conB_ok r2
        cases e1
        cases e2
        exact ⟨u2, v, PySem.W.mg_of X G g2, q1, fun F m => q2 _ rfl F m⟩
      | n + 3, e1, e2 => cases e2
    · match c, e with
      | 0, e => cases e; exact ⟨C0, rfl, PySem.W.mg_of X G d0⟩
      | n + 1, e => cases e
  have G0 := fnB_ok (N := n_is_integer) (body := b_is_integer) (lam := false) (j := 0) o0.plain F0 sc_is_integer b0 (fun z => by cases z) ck_is_integer
  have o1 := o0.snocP (t := t_is_integer) (f := f0) (j := 0) rfl rfl G0
  have G1 := fnB_ok (N := n_is_pair) (body := b_is_pair) (lam := false) (j := 0) o1.plain F1 sc_is_pair b1 (fun z => by cases z) ck_is_pair
  have o2 := o1.snocP (t := t_is_pair) (f := f1) (j := 0) rfl rfl G1
  have G2 := fnB_ok (N := n_are_kinds) (body := b_are_kinds) (lam := false) (j := 0) o2.plain F2 sc_are_kinds b2 (fun z => by cases z) ck_are_kinds
  have o3 := o2.snocP (t := t_are_kinds) (f := f2) (j := 0) rfl rfl G2
  have G3 := fnS_ok (N := n_Row___init__) (ps := ["self"]) (pv := "kinds") (body := b_Row___init__) (lam := false) (j := 0) o3.plain F3 sc_Row___init__ (StX.bind_star1 (B := fun us => bindArgs (PySem.W.fnOf "__init__" "Row.__init__" (defArgs s_Row___init__) (defBody s_Row___init__) (defScope s_Row___init__) .none kV3 dc3 pm3 an3 cd3 ct3) ⟨us, []⟩) (fun _ => rfl) fun _ r rs => rfl) (fun z => by cases z) ck_Row___init__
  have o4 := o3.snocP (t := t_Row___init__) (f := f3) (j := 0) rfl rfl G3
  have G4 := fnB_ok (N := n_gathered) (body := b_gathered) (lam := false) (j := 0) o4.plain F4 sc_gathered b4 (fun z => by cases z) ck_gathered
  have o5 := o4.snocP (t := t_gathered) (f := f4) (j := 0) rfl rfl G4
  have G5 := fnB_ok (N := n_Row_of) (body := b_Row_of) (lam := false) (j := 0) o5.plain F5 sc_Row_of b5 (fun z => by cases z) ck_Row_of
  have o6 := o5.snocP (t := t_Row_of) (f := f5) (j := 0) rfl rfl G5
  have G6 := fnB_ok (N := n_Row_stretches) (body := b_Row_stretches) (lam := false) (j := 0) o6.plain F6 sc_Row_stretches b6 (fun z => by cases z) ck_Row_stretches
  have o7 := o6.snocP (t := t_Row_stretches) (f := f6) (j := 0) rfl rfl G6
  have G7 := fnB_ok (N := n_is_from) (body := b_is_from) (lam := false) (j := 0) o7.plain F7 sc_is_from b7 (fun z => by cases z) ck_is_from
  have o8 := o7.snocP (t := t_is_from) (f := f7) (j := 0) rfl rfl G7
  have G8 := fnB_ok (N := n_Row_require_index) (body := b_Row_require_index) (lam := false) (j := 0) o8.plain F8 sc_Row_require_index b8 (fun z => by cases z) ck_Row_require_index
  have o9 := o8.snocP (t := t_Row_require_index) (f := f8) (j := 0) rfl rfl G8
  have G9 := fnB_ok (N := n_Row_raised) (body := b_Row_raised) (lam := false) (j := 0) o9.plain F9 sc_Row_raised b9 (fun z => by cases z) ck_Row_raised
  have o10 := o9.snocP (t := t_Row_raised) (f := f9) (j := 0) rfl rfl G9
  have G10 := fnB_ok (N := n_Row_degree_at) (body := b_Row_degree_at) (lam := false) (j := 0) o10.plain F10 sc_Row_degree_at b10 (fun z => by cases z) ck_Row_degree_at
  have o11 := o10.snocP (t := t_Row_degree_at) (f := f10) (j := 0) rfl rfl G10
  have G11 := fnB_ok (N := n_Row___getitem__) (body := b_Row___getitem__) (lam := false) (j := 0) o11.plain F11 sc_Row___getitem__ b11 (fun z => by cases z) ck_Row___getitem__
  have o12 := o11.snocP (t := t_Row___getitem__) (f := f11) (j := 0) rfl rfl G11
  have G12 := fnB_ok (N := n_Row___len__) (body := b_Row___len__) (lam := false) (j := 0) o12.plain F12 sc_Row___len__ b12 (fun z => by cases z) ck_Row___len__
  have o13 := o12.snocP (t := t_Row___len__) (f := f12) (j := 0) rfl rfl G12
  have G13 := fnB_ok (N := n_Row___eq__) (body := b_Row___eq__) (lam := false) (j := 0) o13.plain F13 sc_Row___eq__ b13 (fun z => by cases z) ck_Row___eq__
  have o14 := o13.snocP (t := t_Row___eq__) (f := f13) (j := 0) rfl rfl G13
  have G14 := fnB_ok (N := n_Row_kinds) (body := b_Row_kinds) (lam := false) (j := 0) o14.plain F14 sc_Row_kinds b14 (fun z => by cases z) ck_Row_kinds
  have o15 := o14.snocP (t := t_Row_kinds) (f := f14) (j := 0) rfl rfl G14
  have G15 := fnB_ok (N := n_Row___add__) (body := b_Row___add__) (lam := false) (j := 0) o15.plain F15 sc_Row___add__ b15 (fun z => by cases z) ck_Row___add__
  have o16 := o15.snocP (t := t_Row___add__) (f := f15) (j := 0) rfl rfl G15
  have G16 := fnN_ok (N := n_law_numbers) (body := b_law_numbers) (lam := false) (j := 0) o16.plain F16 sc_law_numbers b16 (fun z => by cases z) ck_law_numbers
  have o17 := o16.snocP (t := t_law_numbers) (f := f16) (j := 0) rfl rfl G16
  have G17 := fnB_ok (N := n_Row_joined) (body := b_Row_joined) (lam := false) (j := 0) o17.plain F17 sc_Row_joined b17 (fun z => by cases z) ck_Row_joined
  have o18 := o17.snocP (t := t_Row_joined) (f := f17) (j := 0) rfl rfl G17
  have G18 := fnB_ok (N := n_Row_places) (body := b_Row_places) (lam := false) (j := 0) o18.plain F18 sc_Row_places b18 (fun z => by cases z) ck_Row_places
  have o19 := o18.snocP (t := t_Row_places) (f := f18) (j := 0) rfl rfl G18
  have G19 := fnB_ok (N := n_Row_least) (body := b_Row_least) (lam := false) (j := 0) o19.plain F19 sc_Row_least b19 (fun z => by cases z) ck_Row_least
  have o20 := o19.snocP (t := t_Row_least) (f := f19) (j := 0) rfl rfl G19
  have G20 := fnB_ok (N := n_Row_greatest) (body := b_Row_greatest) (lam := false) (j := 0) o20.plain F20 sc_Row_greatest b20 (fun z => by cases z) ck_Row_greatest
  have o21 := o20.snocP (t := t_Row_greatest) (f := f20) (j := 0) rfl rfl G20
  have G21 := fnB_ok (N := n_Row_total) (body := b_Row_total) (lam := false) (j := 0) o21.plain F21 sc_Row_total b21 (fun z => by cases z) ck_Row_total
  have o22 := o21.snocP (t := t_Row_total) (f := f21) (j := 0) rfl rfl G21
  have G22 := fnB_ok (N := n_law_cast) (body := b_law_cast) (lam := false) (j := 0) o22.plain F22 sc_law_cast b22 (fun z => by cases z) ck_law_cast
  have o23 := o22.snocP (t := t_law_cast) (f := f22) (j := 0) rfl rfl G22
  have G23 := fnB_ok (N := n_law_pick) (body := b_law_pick) (lam := false) (j := 0) o23.plain F23 sc_law_pick b23 (fun z => by cases z) ck_law_pick
  have o24 := o23.snocP (t := t_law_pick) (f := f23) (j := 0) rfl rfl G23
  have G24 := fnB_ok (N := n_law_far_kinds) (body := b_law_far_kinds) (lam := false) (j := 0) o24.plain F24 sc_law_far_kinds b24 (fun z => by cases z) ck_law_far_kinds
  have o25 := o24.snocP (t := t_law_far_kinds) (f := f24) (j := 0) rfl rfl G24
  have G25 := fnB_ok (N := n_law_degree_at) (body := b_law_degree_at) (lam := false) (j := 0) o25.plain F25 sc_law_degree_at b25 (fun z => by cases z) ck_law_degree_at
  have o26 := o25.snocP (t := t_law_degree_at) (f := f25) (j := 0) rfl rfl G25
  have G26 := fnB_ok (N := n_law_put) (body := b_law_put) (lam := false) (j := 0) o26.plain F26 sc_law_put b26 (fun z => by cases z) ck_law_put
  have o27 := o26.snocP (t := t_law_put) (f := f26) (j := 0) rfl rfl G26
  have G27 := fnB_ok (N := n_law_raised) (body := b_law_raised) (lam := false) (j := 0) o27.plain F27 sc_law_raised b27 (fun z => by cases z) ck_law_raised
  have o28 := o27.snocP (t := t_law_raised) (f := f27) (j := 0) rfl rfl G27
  have G28 := fnB_ok (N := n_Row_degrees) (body := b_Row_degrees) (lam := false) (j := 0) o28.plain F28 sc_Row_degrees b28 (fun z => by cases z) ck_Row_degrees
  have o29 := o28.snocP (t := t_Row_degrees) (f := f28) (j := 0) rfl rfl G28
  have G29 := fnB_ok (N := n_law_limit) (body := b_law_limit) (lam := false) (j := 0) o29 F29 sc_law_limit b29 (fun z => by cases z) ck_law_limit
  have o30 := o29.snocN (t := t_law_limit) (f := f29) (j := 0) rfl rfl G29
  have G30 := fnB_ok (N := n_law_right) (body := b_law_right) (lam := false) (j := 0) o30 F30 sc_law_right b30 (fun z => by cases z) ck_law_right
  have o31 := o30.snocN (t := t_law_right) (f := f30) (j := 0) rfl rfl G30
  have G31 := fnB_ok (N := n_law) (body := b_law) (lam := false) (j := 0) o31 F31 sc_law b31 (fun z => by cases z) ck_law
  exact G31
theorem walk {l : PySem.W.OpenLaw} {q : Program} {loose : List Str} {XP : (Str → Option Value) → Heap → Prop} {YP : World → Heap → Prop} {d : DefRec} {K : Params → PySem.W.Frag} {as xs : List Addr} (hn : l.most = some 63) (hdf : d.params.defaults = [])
    (hY : ∀ (w : World) (h : Heap), YP w h → (K w.params).In h) (hrec : (([] : List Str).all fun x => (PyProof.Rows.recsOf q).any fun e => e.name == x) = true)
    (F : ∀ (w : World) (mg : Str → Option Value) (fa : Addr) (h : Heap), (K w.params).In h → h.Ns mainGlobals mg → mg d.name = some (.ref fa) → ∃ cs, TabsAt (K w.params) mg [] cs ∧
      ∀ base : Heap, (K w.params).In base → base.Ns mainGlobals mg → (∀ p ∈ cs, LamX.TabB base mg p.1 p.2) → FnP true l.prog w (K w.params) mg base 65 fa (Prm ⟨K w.params, clsOf as cls, excOf xs xcs, tbs cs⟩ t_law)) :
    PySem.W.WalkO q loose XP YP l.row.toRowW d [] (fun f vs => PySem.call f vs) :=
  walk_ask (n := 63) (k := 65) (sp := fun w cs => Prm ⟨K w.params, clsOf as cls, excOf xs xcs, tbs cs⟩ t_law) hn (by decide) hdf ⟨rfl, by decide, by decide⟩ hY hrec F fun w cs H a ns hl hO hT hS => by
    obtain ⟨μ, e⟩ := law_true ns hl
    refine law_prm (B := ⟨K w.params, clsOf as cls, excOf xs xcs, tbs cs⟩) hO (fun p hp => ?_) hS e
    have hp : p ∈ List.zipWith (fun p x => (p.2, lname x)) cs [] := hp
    obtain ⟨i, hi, ei⟩ := List.mem_iff_getElem.mp hp
    rw [List.getElem_zipWith] at ei
    rw [← ei]
    exact hT _ (List.getElem_mem _)
end Lw
open PySem PySem.W PyProof.Rows
set_option maxRecDepth 100000 in
set_option maxHeartbeats 0 in
theorem PySem.Challenge.cw_suredegrees_k04_great_rows_holds : PySem.Challenge.rw_suredegrees_k04_great_rows.Holds := by
  w_on; o_law; k_head; (case hw => w_witness2)
  k_fill
  refine' Lw.walk (l := PySem.Challenge.rw_suredegrees_k04_great_rows) (as := ?as) (xs := ?xs) rfl rfl (fun w h Y => PySem.W.kIn_of Y) (by kernel_rfl) ?F
  case F =>
    intro w mg fa h KX G hmg
    refine' Lw.all_mk KX G hmg ?h_d0 ?h_dx0 ?h_dx1 ?h_dx2 ?h_dx3 ?h_ax2 ?h_lx2 ?h_cx2 ?h_kx2 ?h_ax3 ?h_lx3 ?h_cx3 ?h_kx3 ?h_hx0 ?h_hx1 ?h_hx2 ?h_zx2 ?h_hx3 ?h_zx3 ?h_hxm ?h_a0 ?h_l0 ?h_c0 ?h_k0 ?h_a1 ?h_l1 ?h_c1 ?h_k1 ?h_a2 ?h_l2 ?h_c2 ?h_k2 ?h_a3 ?h_l3 ?h_c3 ?h_k3 ?h_a4 ?h_l4 ?h_c4 ?h_k4 ?h_a5 ?h_e5 ?h_l5 ?h_c5 ?h_k5 ?h_a6 ?h_l6 ?h_c6 ?h_k6 ?h_a7 ?h_l7 ?h_c7 ?h_k7 ?h_a8 ?h_l8 ?h_c8 ?h_k8 ?h_a9 ?h_l9 ?h_c9 ?h_k9 ?h_a10 ?h_l10 ?h_c10 ?h_k10 ?h_a11 ?h_l11 ?h_c11 ?h_k11 ?h_a12 ?h_l12 ?h_c12 ?h_k12 ?h_a13 ?h_l13 ?h_c13 ?h_k13 ?h_a14 ?h_e14 ?h_l14 ?h_c14 ?h_k14 ?h_a15 ?h_l15 ?h_c15 ?h_k15 ?h_a16 ?h_l16 ?h_c16 ?h_k16 ?h_a17 ?h_l17 ?h_c17 ?h_k17 ?h_a18 ?h_e18 ?h_l18 ?h_c18 ?h_k18 ?h_a19 ?h_e19 ?h_l19 ?h_c19 ?h_k19 ?h_a20 ?h_e20 ?h_l20 ?h_c20 ?h_k20 ?h_a21 ?h_e21 ?h_l21 ?h_c21 ?h_k21 ?h_a22 ?h_l22 ?h_c22 ?h_k22 ?h_a23 ?h_l23 ?h_c23 ?h_k23 ?h_a24 ?h_l24 ?h_c24 ?h_k24 ?h_a25 ?h_l25 ?h_c25 ?h_k25 ?h_a26 ?h_l26 ?h_c26 ?h_k26 ?h_a27 ?h_l27 ?h_c27 ?h_k27 ?h_a28 ?h_e28 ?h_l28 ?h_c28 ?h_k28 ?h_a29 ?h_l29 ?h_c29 ?h_k29 ?h_a30 ?h_l30 ?h_c30 ?h_k30 ?h_a31 ?h_l31 ?h_c31 ?h_k31 ?h_g0 ?h_r0 ?h_g1 ?h_r1 ?h_g2 ?h_r2 ?h_z0 ?h_z1 ?h_z2 ?h_z3 ?h_z4 ?h_z5 ?h_z6 ?h_z7 ?h_z8 ?h_z9 ?h_z10 ?h_z11 ?h_z12 ?h_z13 ?h_z14 ?h_z15 ?h_z16 ?h_z17 ?h_z18 ?h_z19 ?h_hnd ?h_cl
    (case h_d0 => k_is)
    (case h_dx0 => k_is)
    (case h_dx1 => k_is)
    (case h_dx2 => k_is)
    (case h_dx3 => k_is)
    (case h_ax2 => k_is)
    (case h_lx2 => k_is)
    (case h_cx2 => k_is)
    (case h_kx2 => k_is)
    (case h_ax3 => k_is)
    (case h_lx3 => k_is)
    (case h_cx3 => k_is)
    (case h_kx3 => k_is)
    (case h_hx0 => kernel_rfl)
    (case h_hx1 => kernel_rfl)
    (case h_hx2 => kernel_rfl)
    (case h_zx2 => k_is)
    (case h_hx3 => kernel_rfl)
    (case h_zx3 => k_is)
    (case h_hxm => kernel_rfl)
    (case h_a0 => k_is)
    (case h_l0 => k_is)
    (case h_c0 => k_is)
    (case h_k0 => k_is)
    (case h_a1 => k_is)
    (case h_l1 => k_is)
    (case h_c1 => k_is)
    (case h_k1 => k_is)
    (case h_a2 => k_is)
    (case h_l2 => k_is)
    (case h_c2 => k_is)
    (case h_k2 => k_is)
    (case h_a3 => k_is)
    (case h_l3 => k_is)
    (case h_c3 => k_is)
    (case h_k3 => k_is)
    (case h_a4 => k_is)
    (case h_l4 => k_is)
    (case h_c4 => k_is)
    (case h_k4 => k_is)
    (case h_a5 => k_is)
    (case h_e5 => k_is)
    (case h_l5 => k_is)
    (case h_c5 => k_is)
    (case h_k5 => k_is)
    (case h_a6 => k_is)
    (case h_l6 => k_is)
    (case h_c6 => k_is)
    (case h_k6 => k_is)
    (case h_a7 => k_is)
    (case h_l7 => k_is)
    (case h_c7 => k_is)
    (case h_k7 => k_is)
    (case h_a8 => k_is)
    (case h_l8 => k_is)
    (case h_c8 => k_is)
    (case h_k8 => k_is)
    (case h_a9 => k_is)
    (case h_l9 => k_is)
    (case h_c9 => k_is)
    (case h_k9 => k_is)
    (case h_a10 => k_is)
    (case h_l10 => k_is)
    (case h_c10 => k_is)
    (case h_k10 => k_is)
    (case h_a11 => k_is)
    (case h_l11 => k_is)
    (case h_c11 => k_is)
    (case h_k11 => k_is)
    (case h_a12 => k_is)
    (case h_l12 => k_is)
    (case h_c12 => k_is)
    (case h_k12 => k_is)
    (case h_a13 => k_is)
    (case h_l13 => k_is)
    (case h_c13 => k_is)
    (case h_k13 => k_is)
    (case h_a14 => k_is)
    (case h_e14 => k_is)
    (case h_l14 => k_is)
    (case h_c14 => k_is)
    (case h_k14 => k_is)
    (case h_a15 => k_is)
    (case h_l15 => k_is)
    (case h_c15 => k_is)
    (case h_k15 => k_is)
    (case h_a16 => k_is)
    (case h_l16 => k_is)
    (case h_c16 => k_is)
    (case h_k16 => k_is)
    (case h_a17 => k_is)
    (case h_l17 => k_is)
    (case h_c17 => k_is)
    (case h_k17 => k_is)
    (case h_a18 => k_is)
    (case h_e18 => k_is)
    (case h_l18 => k_is)
    (case h_c18 => k_is)
    (case h_k18 => k_is)
    (case h_a19 => k_is)
    (case h_e19 => k_is)
    (case h_l19 => k_is)
    (case h_c19 => k_is)
    (case h_k19 => k_is)
    (case h_a20 => k_is)
    (case h_e20 => k_is)
    (case h_l20 => k_is)
    (case h_c20 => k_is)
    (case h_k20 => k_is)
    (case h_a21 => k_is)
    (case h_e21 => k_is)
    (case h_l21 => k_is)
    (case h_c21 => k_is)
    (case h_k21 => k_is)
    (case h_a22 => k_is)
    (case h_l22 => k_is)
    (case h_c22 => k_is)
    (case h_k22 => k_is)
    (case h_a23 => k_is)
    (case h_l23 => k_is)
    (case h_c23 => k_is)
    (case h_k23 => k_is)
    (case h_a24 => k_is)
    (case h_l24 => k_is)
    (case h_c24 => k_is)
    (case h_k24 => k_is)
    (case h_a25 => k_is)
    (case h_l25 => k_is)
    (case h_c25 => k_is)
    (case h_k25 => k_is)
    (case h_a26 => k_is)
    (case h_l26 => k_is)
    (case h_c26 => k_is)
    (case h_k26 => k_is)
    (case h_a27 => k_is)
    (case h_l27 => k_is)
    (case h_c27 => k_is)
    (case h_k27 => k_is)
    (case h_a28 => k_is)
    (case h_e28 => k_is)
    (case h_l28 => k_is)
    (case h_c28 => k_is)
    (case h_k28 => k_is)
    (case h_a29 => k_is)
    (case h_l29 => k_is)
    (case h_c29 => k_is)
    (case h_k29 => k_is)
    (case h_a30 => k_is)
    (case h_l30 => k_is)
    (case h_c30 => k_is)
    (case h_k30 => k_is)
    (case h_a31 => k_is)
    (case h_l31 => k_is)
    (case h_c31 => k_is)
    (case h_k31 => k_is)
    (case h_g0 => k_is)
    (case h_r0 => kernel_rfl)
    (case h_g1 => k_is)
    (case h_r1 => kernel_rfl)
    (case h_g2 => k_is)
    (case h_r2 => kernel_rfl)
    (case h_z0 => k_is)
    (case h_z1 => k_is)
    (case h_z2 => k_is)
    (case h_z3 => k_is)
    (case h_z4 => k_is)
    (case h_z5 => k_is)
    (case h_z6 => k_is)
    (case h_z7 => k_is)
    (case h_z8 => k_is)
    (case h_z9 => k_is)
    (case h_z10 => k_is)
    (case h_z11 => k_is)
    (case h_z12 => k_is)
    (case h_z13 => k_is)
    (case h_z14 => k_is)
    (case h_z15 => k_is)
    (case h_z16 => k_is)
    (case h_z17 => k_is)
    (case h_z18 => k_is)
    (case h_z19 => k_is)
    (case h_hnd => kernel_rfl)
    (case h_cl => kernel_rfl)

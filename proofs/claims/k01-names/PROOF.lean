import PyProof.Rows.All
import Wide.All
import OpenK.AllK
import Wide.FinOn
import HandS.ForMost
import HandS.ForExc
import HandS.Walk
import HandS.IsInst
import HandS.Wide
import PySem.Challenge.RW_suredegrees_k01_names
set_option Elab.async false
set_option linter.all false
set_option maxRecDepth 100000
set_option maxHeartbeats 4000000
/-! Sg1: data, the store, the small language, its evaluator. Plain Lean, no machine. -/
namespace Sg
open PySem L2

/-- data: what a value is worth; .ref k: the k-th cell of the store -/
inductive D where
  | non | bl (b : Bool) | int (i : Int) | str (x : Str)
  | tup (xs : List D) | lst (xs : List D) | dic (ks : List Key) (vs : List D)
  | ins (c : Nat) (fs : List D) | ref (k : Nat)
  /-- a list that is only read (the script) -/
  | rol (xs : List D)
  deriving Inhabited

structure Exc where
  c : Nat
  ds : List D

inductive Cell where
  /-- a list that its def may still change -/
  | own (xs : List D)
  /-- a list that is handed around and changed by many -/
  | shr (xs : List D)
  /-- data by now -/
  | frz (d : D)

abbrev Store := List Cell
abbrev Rho := List (Option D)
abbrev M (α : Type) := Store → Option (Except Exc α × Store)

def rt {α : Type} (a : α) : M α := fun μ => some (.ok a, μ)
def bd {α β : Type} (x : M α) (f : α → M β) : M β := fun μ => match x μ with
  | none => none
  | some (.error e, μ') => some (.error e, μ')
  | some (.ok a, μ') => f a μ'
def up {α : Type} (o : Option α) : M α := fun μ => match o with
  | some a => some (.ok a, μ)
  | none => none
/-- no exception may come out -/
def sure {α : Type} (x : M α) : M α := fun μ => match x μ with
  | some (.ok a, μ') => some (.ok a, μ')
  | _ => none

mutual
/-- names no cell -/
def D.nr : D → Bool
  | .tup xs => D.nrL xs
  | .lst xs => D.nrL xs
  | .rol xs => D.nrL xs
  | .dic _ xs => D.nrL xs
  | .ins _ xs => D.nrL xs
  | .ref _ => false
  | _ => true
def D.nrL : List D → Bool
  | [] => true
  | d :: r => D.nr d && D.nrL r
end

def frzD : D → M D
  | .ref k, μ => match μ[k]? with
    | some (.own xs) => some (.ok (.lst xs), μ.set k (.frz (.lst xs)))
    | some (.frz d) => some (.ok d, μ)
    | some (.shr _) => some (.ok (.ref k), μ)
    | none => none
  | d, μ => some (.ok d, μ)

/-- what a list is, behind its reference or not -/
def seqL (μ : Store) : D → Option (List D)
  | .lst xs => some xs
  | .rol xs => some xs
  | .ref k => match μ[k]? with
    | some (.own xs) => some xs
    | some (.shr xs) => some xs
    | some (.frz (.lst xs)) => some xs
    | _ => none
  | _ => none

/-! ### operations upon data -/
def mulOk (i j : Int) : Bool := decide ((-(2 ^ 64) < i ∧ i < 2 ^ 64) ∨ (-(2 ^ 64) < j ∧ j < 2 ^ 64) ∨ i.natAbs.log2 + j.natAbs.log2 < 1000000)
def divOk (j : Int) : Bool := decide (0 < j ∧ j.natAbs.log2 < 9000)
def powOk (i j : Int) : Bool := decide (0 ≤ j ∧ (Builtin.Int.intBits i : Int) * j ≤ 2 ^ 27)

def binD : Operator → D → D → Option D
  | .Add, .int i, .int j => some (.int (i + j))
  | .Add, .str a, .str b => if a.length + b.length ≤ sizeLine then some (.str (a ++ b)) else none
  | .Add, .lst a, .lst b => if a.length + b.length ≤ sizeLine then some (.lst (a ++ b)) else none
  | .Sub, .int i, .int j => some (.int (i - j))
  | .Mult, .int i, .int j => if mulOk i j then some (.int (i * j)) else none
  | .Mult, .lst a, .int k => if -(2 ^ 63) ≤ k ∧ k < 2 ^ 63 ∧ a.length * k.toNat ≤ sizeLine then some (.lst (List.replicate k.toNat a).flatten) else none
  | .FloorDiv, .int i, .int j => if divOk j then some (.int (i / j)) else none
  | .Mod, .int i, .int j => if 0 < j then some (.int (i % j)) else none
  | .Pow, .int i, .int j => if powOk i j then some (.int (i ^ j.toNat)) else none
  | _, _, _ => none

mutual
def D.py : D → Option PyData
  | .non => some .none
  | .bl b => some (.bool b)
  | .int i => some (.int i)
  | .str x => some (.str x)
  | .tup xs => (D.pyL xs).map .tuple
  | .lst xs => (D.pyL xs).map .list
  | _ => none
def D.pyL : List D → Option (List PyData)
  | [] => some []
  | d :: r => match D.py d, D.pyL r with
    | some x, some y => some (x :: y)
    | _, _ => none
end

def eqD (x y : D) : Option Bool := match x.py, y.py with
  | some a, some b => if SeqAt.shaped a && SeqAt.shaped b then some (PyData.eqv a b) else none
  | _, _ => none

def sign? (x : Str) : Option Nat := match x.cps.toList with
  | [c] => some c
  | _ => none

def cmpD : CmpOp → D → D → Option Bool
  | .Lt, .int i, .int j => some (decide (i < j))
  | .LtE, .int i, .int j => some (decide (i ≤ j))
  | .Gt, .int i, .int j => some (decide (j < i))
  | .GtE, .int i, .int j => some (decide (j ≤ i))
  | .LtE, .str a, .str b => some (!decide (b.cps.toList < a.cps.toList))
  | .In, .str a, .str b => (sign? a).map fun c => decide (c ∈ b.cps.toList)
  | .Eq, x, y => eqD x y
  | .NotEq, x, y => (eqD x y).map (!·)
  | _, _, _ => none

def truD : D → Option Bool
  | .non => some false
  | .bl b => some b
  | .int i => some (i != 0)
  | .str x => if x.length ≤ sizeLine then some (x.length != 0) else none
  | .tup xs => some (!xs.isEmpty)
  | .lst xs => some (!xs.isEmpty)
  | _ => none

def subD (μ : Store) (o i : D) : Option D := match i with
  | .int i => match o with
    | .str z => if z.length ≤ sizeLine then (atI z.cps.toList i).map fun c => .str ⟨#[c]⟩ else none
    | .tup xs => atI xs i
    | o => (seqL μ o).bind fun xs => atI xs i
  | _ => none

def cutD {α : Type} (xs : List α) (lo hi : Option Int) : List α :=
  (xs.drop (HT.sIx xs.length 0 lo)).take (HT.sIx xs.length xs.length hi - HT.sIx xs.length 0 lo)

def slcD (o : D) (lo hi : Option Int) : Option D := match o with
  | .str z => if z.length ≤ sizeLine then some (.str (cutS z lo hi)) else none
  | .lst xs => some (.lst (cutD xs lo hi))
  | _ => none

/-- what a value is an instance of: a built-in type by its name, an own class by its number -/
inductive Ty where
  | ty (n : String)
  | own (c : Nat)
  deriving DecidableEq

def tyD : D → Option Ty
  | .non => some (.ty "NoneType")
  | .bl _ => some (.ty "bool")
  | .int _ => some (.ty "int")
  | .str _ => some (.ty "str")
  | .tup _ => some (.ty "tuple")
  | .lst _ => some (.ty "list")
  | .dic _ _ => some (.ty "dict")
  | .ins c _ => some (.own c)
  | .ref _ => none
  | .rol _ => none

def isiD (d : D) (t : Ty) : Option Bool := match tyD d, t with
  | some (.ty a), .ty b => if b ∈ ["int", "str", "tuple", "list", "dict", "bool"] then some (decide (a = b) || (decide (a = "bool") && decide (b = "int"))) else none
  | _, _ => none

/-- built-in functions that are served -/
inductive Blt where
  | len | abs | int | max2 | min2 | all | repr
  deriving DecidableEq

def strs? : List D → Option (List Str)
  | [] => some []
  | .str x :: r => (strs? r).map (x :: ·)
  | _ => none
def bls? : List D → Option (List Bool)
  | [] => some []
  | .bl x :: r => (bls? r).map (x :: ·)
  | _ => none

def bltD (μ : Store) : Blt → List D → Option D
  | .len, [.str z] => if z.length ≤ sizeLine then some (.int z.length) else none
  | .len, [.tup xs] => some (.int xs.length)
  | .len, [o] => (seqL μ o).map fun xs => .int xs.length
  | .abs, [.int i] => some (.int (if i < 0 then -i else i))
  | .int, [.int i] => some (.int i)
  | .int, [.bl b] => some (.int (if b then 1 else 0))
  | .max2, [.int i, .int j] => some (.int (if j > i then j else i))
  | .min2, [.int i, .int j] => some (.int (if j < i then j else i))
  | .all, [.lst xs] => (bls? xs).map fun bs => .bl (bs.all id)
  | .repr, [.bl b] => some (.str (if b then "True" else "False"))
  | _, _ => none

/-- methods of built-in types that only read -/
inductive Mth where
  | join | upper
  deriving DecidableEq

/-- is the receiver of the method's own type -/
def mthTy : Mth → D → Bool
  | .join, .str _ => true
  | .upper, .str _ => true
  | _, _ => false
def mthD : Mth → D → List D → Option D
  | .join, .str a, [.lst xs] => (strs? xs).bind fun ys => if (ys.map (·.length)).sum + ys.length * a.length ≤ 16777216 then some (.str (Txt.join a ys)) else none
  | .upper, .str a, [] => if a.length ≤ 5592405 then some (.str (Txt.upper a)) else none
  | _, _, _ => none

/-! ### the language -/
inductive Tg where
  | name (i : Nat)
  | tup (ts : List Tg)

mutual
inductive E where
  | non | bl (b : Bool) | int (i : Int) | str (x : Str)
  | var (i : Nat)
  /-- the name's value as it stands: a list of the def's own is not data by this -/
  | raw (i : Nat)
  | gcon (g : Nat)
  | bin (op : Operator) (a b : E)
  | neg (a : E)
  | cmp (op : CmpOp) (a b : E)
  | chain (op op' : CmpOp) (a b c : E)
  | and (a b : E) | or (a b : E) | not (a : E)
  | ite (c : B) (a b : E)
  | tup (es : List E) | lst (es : List E)
  /-- {} -/
  | emp
  | call (f : Nat) (es : List E)
  | blt (b : Blt) (es : List E)
  | isi (a : E) (t : Ty)
  | mth (m : Mth) (o : E) (es : List E)
  | sub (o i : E)
  | slc (o : E) (lo hi : Option E)
  /-- [elt for tg in it if ..], vs the slots of its own names -/
  | lc (vs : List Nat) (tg : Tg) (it : I) (ifs : List B) (elt : E)
/-- tests -/
inductive B where
  | val (e : E)
  | cmp (op : CmpOp) (a b : E)
  | chain (op op' : CmpOp) (a b c : E)
  | not (a : B) | and (a b : B) | or (a b : B)
/-- what is walked -/
inductive I where
  | val (e : E)
  | rng1 (a : E) | rng2 (a b : E)
end

inductive S where
  | asg (tg : Tg) (e : E)
  /-- a, b = e, f (two local names) -/
  | par (i j : Nat) (a b : E)
  /-- x[i] = e, x in slot k a list that is shared or own -/
  | put (k : Nat) (i e : E)
  | ife (c : B) (a b : List S)
  | for (tg : Tg) (it : I) (body : List S)
  | ret (e : E)
  | retN
  /-- return of a new list, to be shared -/
  | retS (es : List E)
  | expr (e : E)
  | pass | brk | cont

structure Tab where
  fns : List (List D → M D)
  cons : List D

inductive Fl where
  | next | brk | cont | ret (d : D) | exc (x : Exc)

mutual
def bindT : Tg → D → Rho → Option Rho
  | .name i, d, ρ => some (ρ.set i (some d))
  | .tup ts, .tup ds, ρ => bindTs ts ds ρ
  | _, _, _ => none
def bindTs : List Tg → List D → Rho → Option Rho
  | [], [], ρ => some ρ
  | t :: ts, d :: ds, ρ => match bindT t d ρ with
    | some ρ' => bindTs ts ds ρ'
    | none => none
  | _, _, _ => none
end

def wipeR (ρ : Rho) : List Nat → Rho
  | [] => ρ
  | v :: vs => (wipeR ρ vs).set v none

/-- a comprehension's turns over the items: f the test, g the element -/
def lcM (b : D → Option Rho) (f : Rho → M Bool) (g : Rho → M D) : List D → M (List D)
  | [] => rt []
  | x :: r => fun μ => match b x with
    | none => none
    | some ρ => bd (f ρ) (fun c => if c then bd (g ρ) fun y => bd (lcM b f g r) fun ys => rt (y :: ys) else lcM b f g r) μ

/-- the items of a range -/
def rngD (lo : Int) : Nat → List D
  | 0 => []
  | n + 1 => .int lo :: rngD (lo + 1) n
def rngOk (i : Int) : Bool := decide (-(2 ^ 62) ≤ i ∧ i < 2 ^ 62)
/-- what is walked -/
def itemsD : D → Option (List D)
  | .lst xs => some xs
  | .tup xs => some xs
  | .str z => some (z.cps.toList.map fun c => .str ⟨#[c]⟩)
  | _ => none

mutual
def evalE (T : Tab) : E → Rho → M D
  | .non, _ => rt .non
  | .bl b, _ => rt (.bl b)
  | .int i, _ => rt (.int i)
  | .str x, _ => rt (.str x)
  | .var i, ρ => match ρ[i]? with
    | some (some d) => frzD d
    | _ => up none
  | .raw i, ρ => match ρ[i]? with
    | some (some d) => rt d
    | _ => up none
  | .gcon g, _ => up T.cons[g]?
  | .bin op a b, ρ => bd (evalE T a ρ) fun x => bd (evalE T b ρ) fun y => up (binD op x y)
  | .neg a, ρ => bd (evalE T a ρ) fun x => match x with
    | .int i => rt (.int (-i))
    | _ => up none
  | .cmp op a b, ρ => bd (evalE T a ρ) fun x => bd (evalE T b ρ) fun y => up ((cmpD op x y).map .bl)
  | .chain op op' a b c, ρ => bd (evalE T a ρ) fun x => bd (evalE T b ρ) fun y => bd (up (cmpD op x y)) fun k =>
    if k then bd (evalE T c ρ) fun z => up ((cmpD op' y z).map .bl) else rt (.bl false)
  | .and a b, ρ => bd (evalE T a ρ) fun x => match x with
    | .bl true => evalE T b ρ
    | .bl false => rt (.bl false)
    | _ => up none
  | .or a b, ρ => bd (evalE T a ρ) fun x => match x with
    | .bl false => evalE T b ρ
    | .bl true => rt (.bl true)
    | _ => up none
  | .not a, ρ => bd (evalE T a ρ) fun x => match x with
    | .bl k => rt (.bl (!k))
    | _ => up none
  | .ite c a b, ρ => bd (evalT T c ρ) fun k => if k then evalE T a ρ else evalE T b ρ
  | .tup es, ρ => bd (evalL T es ρ) fun ds => if ds.length ≤ sizeLine then rt (.tup ds) else up none
  | .lst es, ρ => bd (evalL T es ρ) fun ds => if ds.length ≤ sizeLine then rt (.lst ds) else up none
  | .emp, _ => rt (.dic [] [])
  | .call f es, ρ => bd (evalL T es ρ) fun ds => match T.fns[f]? with
    | some g => g ds
    | none => up none
  | .blt b es, ρ => bd (evalL T es ρ) fun ds μ => up (bltD μ b ds) μ
  | .isi a t, ρ => bd (evalE T a ρ) fun x => up ((isiD x t).map .bl)
  | .mth m o es, ρ => bd (evalE T o ρ) fun x => if mthTy m x then bd (evalL T es ρ) fun ds => up (mthD m x ds) else up none
  | .sub o i, ρ => bd (evalE T o ρ) fun x => bd (evalE T i ρ) fun y μ => up (subD μ x y) μ
  | .slc o lo hi, ρ => bd (evalE T o ρ) fun x => bd (evalO T lo ρ) fun l => bd (evalO T hi ρ) fun h => up (slcD x l h)
  | .lc vs tg it ifs elt, ρ => bd (evalI T it ρ) fun ds => bd (sure (lcM (fun d => bindT tg d (wipeR ρ vs)) (fun ρ' => evalTs T ifs ρ') (fun ρ' => evalE T elt ρ') ds)) fun ys =>
    if ys.length ≤ sizeLine then rt (.lst ys) else up none
def evalT (T : Tab) : B → Rho → M Bool
  | .val e, ρ => bd (evalE T e ρ) fun x => up (truD x)
  | .cmp op a b, ρ => bd (evalE T a ρ) fun x => bd (evalE T b ρ) fun y => up (cmpD op x y)
  | .chain op op' a b c, ρ => bd (evalE T a ρ) fun x => bd (evalE T b ρ) fun y => bd (up (cmpD op x y)) fun k =>
    if k then bd (evalE T c ρ) fun z => up (cmpD op' y z) else rt false
  | .not a, ρ => bd (evalT T a ρ) fun k => rt (!k)
  | .and a b, ρ => bd (evalT T a ρ) fun k => if k then evalT T b ρ else rt false
  | .or a b, ρ => bd (evalT T a ρ) fun k => if k then rt true else evalT T b ρ
def evalL (T : Tab) : List E → Rho → M (List D)
  | [], _ => rt []
  | e :: es, ρ => bd (evalE T e ρ) fun x => bd (evalL T es ρ) fun xs => rt (x :: xs)
def evalO (T : Tab) : Option E → Rho → M (Option Int)
  | none, _ => rt none
  | some e, ρ => bd (evalE T e ρ) fun x => match x with
    | .int i => rt (some i)
    | _ => up none
def evalTs (T : Tab) : List B → Rho → M Bool
  | [], _ => rt true
  | e :: es, ρ => bd (evalT T e ρ) fun k => if k then evalTs T es ρ else rt false
def evalI (T : Tab) : I → Rho → M (List D)
  | .val e, ρ => bd (evalE T e ρ) fun x => up (itemsD x)
  | .rng1 a, ρ => bd (evalE T a ρ) fun x => match x with
    | .int j => if rngOk j then rt (rngD 0 j.toNat) else up none
    | _ => up none
  | .rng2 a b, ρ => bd (evalE T a ρ) fun x => bd (evalE T b ρ) fun y => match x, y with
    | .int i, .int j => if rngOk i && rngOk j then rt (rngD i (j - i).toNat) else up none
    | _, _ => up none
end

/-- the turns of a for: b binds the item, f runs the body -/
def forM (b : D → Rho → Option Rho) (f : Rho → Store → Option (Fl × Rho × Store)) : List D → Rho → Store → Option (Fl × Rho × Store)
  | [], ρ, μ => some (.next, ρ, μ)
  | x :: r, ρ, μ => match b x ρ with
    | none => none
    | some ρ1 => match f ρ1 μ with
      | some (.next, ρ2, μ2) => forM b f r ρ2 μ2
      | some (.cont, ρ2, μ2) => forM b f r ρ2 μ2
      | some (.brk, ρ2, μ2) => some (.next, ρ2, μ2)
      | z => z

/-- a statement's end from an expression's -/
def andS {α : Type} (x : M α) (ρ : Rho) (k : α → Store → Option (Fl × Rho × Store)) (μ : Store) : Option (Fl × Rho × Store) := match x μ with
  | none => none
  | some (.error e, μ') => some (.exc e, ρ, μ')
  | some (.ok a, μ') => k a μ'

def putC (μ : Store) (o : D) (i : Int) (d : D) : Option Store := match o with
  | .ref k => match μ[k]? with
    | some (.own xs) => if d.nr then (ixN xs.length i).map fun j => μ.set k (.own (xs.set j d)) else none
    | some (.shr xs) => if d.nr then (ixN xs.length i).map fun j => μ.set k (.shr (xs.set j d)) else none
    | _ => none
  | _ => none

mutual
def execS (T : Tab) : S → Rho → Store → Option (Fl × Rho × Store)
  | .asg tg e, ρ, μ => andS (evalE T e ρ) ρ (fun d μ' => (bindT tg d ρ).map fun ρ' => (.next, ρ', μ')) μ
  | .par i j a b, ρ, μ => andS (evalE T a ρ) ρ (fun x μ1 => andS (evalE T b ρ) ρ (fun y μ2 => some (.next, (ρ.set i (some x)).set j (some y), μ2)) μ1) μ
  | .put k i e, ρ, μ => andS (evalE T e ρ) ρ (fun d μ1 => andS (evalE T (.raw k) ρ) ρ (fun o μ2 => andS (evalE T i ρ) ρ (fun x μ3 => match x with
    | .int n => (putC μ3 o n d).map fun μ4 => (.next, ρ, μ4)
    | _ => none) μ2) μ1) μ
  | .ife c a b, ρ, μ => andS (evalT T c ρ) ρ (fun k μ' => if k then execL T a ρ μ' else execL T b ρ μ') μ
  | .for tg it body, ρ, μ => andS (evalI T it ρ) ρ (fun ds μ' => forM (fun d ρ => bindT tg d ρ) (fun ρ μ => execL T body ρ μ) ds ρ μ') μ
  | .ret e, ρ, μ => andS (evalE T e ρ) ρ (fun d μ' => some (.ret d, ρ, μ')) μ
  | .retN, ρ, μ => some (.ret .non, ρ, μ)
  | .retS es, ρ, μ => andS (evalL T es ρ) ρ (fun ds μ' => if ds.length ≤ sizeLine ∧ D.nrL ds = true then some (.ret (.ref μ'.length), ρ, μ' ++ [.shr ds]) else none) μ
  | .expr e, ρ, μ => andS (evalE T e ρ) ρ (fun _ μ' => some (.next, ρ, μ')) μ
  | .pass, ρ, μ => some (.next, ρ, μ)
  | .brk, ρ, μ => some (.brk, ρ, μ)
  | .cont, ρ, μ => some (.cont, ρ, μ)
def execL (T : Tab) : List S → Rho → Store → Option (Fl × Rho × Store)
  | [], ρ, μ => some (.next, ρ, μ)
  | s :: r, ρ, μ => match execS T s ρ μ with
    | some (.next, ρ1, μ1) => execL T r ρ1 μ1
    | z => z
end

def startR (n : Nat) (ds : List D) : Rho := ds.map some ++ List.replicate (n - ds.length) none
/-- a def: n slots, its body; what it hands back holds no cell of its own -/
def runB (T : Tab) (n : Nat) (body : List S) (ds : List D) : M D := fun μ => match execL T body (startR n ds) μ with
  | some (.ret d, _, μ') => if d.nr then some (.ok d, μ'.take μ.length) else none
  | some (.next, _, μ') => some (.ok .non, μ'.take μ.length)
  | some (.exc x, _, μ') => if D.nrL x.ds then some (.error x, μ'.take μ.length) else none
  | _ => none
/-- a def that hands back a new shared list -/
def runN (T : Tab) (n : Nat) (body : List S) (ds : List D) : M D := fun μ => match execL T body (startR n ds) μ with
  | some (.ret (.ref k), _, μ') => match μ'[k]? with
    | some (.shr xs) => if μ.length ≤ k then some (.ok (.ref μ.length), μ'.take μ.length ++ [.shr xs]) else none
    | _ => none
  | _ => none

end Sg
/-! Sg2: how data lies in the abstract heap; calls; what it means that code does what the evaluator says. -/
namespace Sg
open PySem L2

/-- the written part; own classes (address, attributes in order); exceptions (class, attributes) -/
structure Bk where
  K : PySem.W.Frag
  cls : List (Addr × List Str)
  exc : List (Value × List Str)

mutual
def Rep (B : Bk) (F : Hp) (m : List Addr) : D → V → Prop
  | .non, v => v = .non
  | .bl b, v => v = .bl b
  | .int i, v => v = .int i
  | .str x, v => v = .str x
  | .tup xs, v => ∃ a vs, v = .ref a ∧ SqT B.K F a vs ∧ RepL B F m xs vs
  | .lst xs, v => ∃ a vs, v = .ref a ∧ F a = some (.lst vs) ∧ RepL B F m xs vs
  | .rol xs, v => ∃ a vs, v = .ref a ∧ SqL B.K F a vs ∧ RepL B F m xs vs
  | .dic ks xs, v => ∃ a vs, v = .ref a ∧ F a = some (.dK (ks.zip vs)) ∧ ks.length = vs.length ∧ RepL B F m xs vs
  | .ins c xs, v => ∃ a C dx ns vs, v = .ref a ∧ B.cls[c]? = some (C, ns) ∧ ns.length = vs.length ∧ F a = some (.ins C dx (ns.zip vs)) ∧ RepL B F m xs vs
  | .ref k, v => ∃ a, m[k]? = some a ∧ v = .ref a
def RepL (B : Bk) (F : Hp) (m : List Addr) : List D → List V → Prop
  | [], vs => vs = []
  | d :: r, vs => ∃ v us, vs = v :: us ∧ Rep B F m d v ∧ RepL B F m r us
end

structure Grow (F : Hp) (m : List Addr) (F' : Hp) (m' : List Addr) : Prop where
  sub : Same F F'
  pre : ∀ (k : Nat) (a : Addr), m[k]? = some a → m'[k]? = some a
theorem Grow.refl (F : Hp) (m : List Addr) : Grow F m F m := ⟨Same.refl F, fun _ _ h => h⟩
theorem Grow.trans {F F1 F2 : Hp} {m m1 m2 : List Addr} (a : Grow F m F1 m1) (b : Grow F1 m1 F2 m2) : Grow F m F2 m2 :=
  ⟨a.sub.trans b.sub, fun k x h => b.pre k x (a.pre k x h)⟩
theorem seqT_mono {K : PySem.W.Frag} {F F' : Hp} (e : Same F F') {a : Addr} {xs : List V} (h : SqT K F a xs) : SqT K F' a xs := by
  rcases h with (h | ⟨o, h⟩) | h
  · exact .inl (.inl (e _ _ h))
  · exact .inl (.inr ⟨o, e _ _ h⟩)
  · exact .inr h

mutual
theorem Rep.mono {B : Bk} {F F' : Hp} {m m' : List Addr} (g : Grow F m F' m') : ∀ (d : D) (v : V), Rep B F m d v → Rep B F' m' d v
  | .non, _, h => h
  | .bl _, _, h => h
  | .int _, _, h => h
  | .str _, _, h => h
  | .tup xs, _, h => by
    obtain ⟨a, vs, e, s, r⟩ := h
    exact ⟨a, vs, e, seqT_mono g.sub s, RepL.mono g xs vs r⟩
  | .lst xs, _, h => by
    obtain ⟨a, vs, e, s, r⟩ := h
    exact ⟨a, vs, e, g.sub _ _ s, RepL.mono g xs vs r⟩
  | .rol xs, _, h => by
    obtain ⟨a, vs, e, s, r⟩ := h
    exact ⟨a, vs, e, g.sub.seq s, RepL.mono g xs vs r⟩
  | .dic ks xs, _, h => by
    obtain ⟨a, vs, e, s, l, r⟩ := h
    exact ⟨a, vs, e, g.sub _ _ s, l, RepL.mono g xs vs r⟩
  | .ins c xs, _, h => by
    obtain ⟨a, C, dx, ns, vs, e, hc, l, s, r⟩ := h
    exact ⟨a, C, dx, ns, vs, e, hc, l, g.sub _ _ s, RepL.mono g xs vs r⟩
  | .ref k, _, h => by
    obtain ⟨a, e, r⟩ := h
    exact ⟨a, g.pre _ _ e, r⟩
theorem RepL.mono {B : Bk} {F F' : Hp} {m m' : List Addr} (g : Grow F m F' m') : ∀ (ds : List D) (vs : List V), RepL B F m ds vs → RepL B F' m' ds vs
  | [], _, h => h
  | d :: r, _, h => by
    obtain ⟨v, us, e, h1, h2⟩ := h
    exact ⟨v, us, e, Rep.mono g d v h1, RepL.mono g r us h2⟩
end

mutual
/-- data that names no cell stands over any cells -/
theorem Rep.any {B : Bk} {F : Hp} {m m' : List Addr} : ∀ (d : D) (v : V), d.nr = true → Rep B F m d v → Rep B F m' d v
  | .non, _, _, h => h
  | .bl _, _, _, h => h
  | .int _, _, _, h => h
  | .str _, _, _, h => h
  | .tup xs, _, c, q => by
    obtain ⟨a, vs, e, s, r⟩ := q
    exact ⟨a, vs, e, s, RepL.any xs vs c r⟩
  | .lst xs, _, c, q => by
    obtain ⟨a, vs, e, s, r⟩ := q
    exact ⟨a, vs, e, s, RepL.any xs vs c r⟩
  | .rol xs, _, c, q => by
    obtain ⟨a, vs, e, s, r⟩ := q
    exact ⟨a, vs, e, s, RepL.any xs vs c r⟩
  | .dic ks xs, _, c, q => by
    obtain ⟨a, vs, e, s, l, r⟩ := q
    exact ⟨a, vs, e, s, l, RepL.any xs vs c r⟩
  | .ins _ xs, _, c, q => by
    obtain ⟨a, C, dx, ns, vs, e, hc, l, s, r⟩ := q
    exact ⟨a, C, dx, ns, vs, e, hc, l, s, RepL.any xs vs c r⟩
  | .ref k, _, c, q => by cases c
theorem RepL.any {B : Bk} {F : Hp} {m m' : List Addr} : ∀ (ds : List D) (vs : List V), D.nrL ds = true → RepL B F m ds vs → RepL B F m' ds vs
  | [], _, _, q => q
  | d :: r, _, c, q => by
    obtain ⟨v, us, e, h1, h2⟩ := q
    have c' : (D.nr d && D.nrL r) = true := c
    rw [Bool.and_eq_true] at c'
    exact ⟨v, us, e, Rep.any d v c'.1 h1, RepL.any r us c'.2 h2⟩
end
theorem D.nrL_get : ∀ {ds : List D} {i : Nat} {d : D}, D.nrL ds = true → ds[i]? = some d → d.nr = true
  | [], _, _, _, e => by simp at e
  | x :: r, 0, d, c, e => by
    have c' : (D.nr x && D.nrL r) = true := c
    rw [Bool.and_eq_true] at c'
    simp at e
    subst e
    exact c'.1
  | x :: r, i + 1, d, c, e => by
    have c' : (D.nr x && D.nrL r) = true := c
    rw [Bool.and_eq_true] at c'
    exact D.nrL_get (i := i) c'.2 (by simpa using e)
theorem D.nrL_set {d : D} (hd : d.nr = true) : ∀ {ds : List D} (i : Nat), D.nrL ds = true → D.nrL (ds.set i d) = true
  | [], _, c => c
  | x :: r, 0, c => by
    have c' : (D.nr x && D.nrL r) = true := c
    rw [Bool.and_eq_true] at c'
    show (D.nr d && D.nrL r) = true
    rw [hd, c'.2]
    rfl
  | x :: r, i + 1, c => by
    have c' : (D.nr x && D.nrL r) = true := c
    rw [Bool.and_eq_true] at c'
    show (D.nr x && D.nrL (r.set i d)) = true
    rw [c'.1, D.nrL_set hd i c'.2]
    rfl
def Cell.nr : Cell → Bool
  | .own xs => D.nrL xs
  | .shr xs => D.nrL xs
  | .frz d => d.nr

theorem RepL.length {B : Bk} {F : Hp} {m : List Addr} : ∀ {ds : List D} {vs : List V}, RepL B F m ds vs → ds.length = vs.length
  | [], _, h => by
    have h : _ = [] := h
    rw [h]
    rfl
  | d :: r, _, h => by
    obtain ⟨v, us, rfl, _, h2⟩ := h
    rw [List.length_cons, List.length_cons, RepL.length h2]
theorem RepL.get {B : Bk} {F : Hp} {m : List Addr} : ∀ {ds : List D} {vs : List V}, RepL B F m ds vs → ∀ (i : Nat) (d : D), ds[i]? = some d → ∃ v, vs[i]? = some v ∧ Rep B F m d v
  | [], _, _, _, _, e => by simp at e
  | d :: r, _, h, 0, x, e => by
    obtain ⟨v, us, rfl, h1, _⟩ := h
    simp at e
    subst e
    exact ⟨v, rfl, h1⟩
  | d :: r, _, h, i + 1, x, e => by
    obtain ⟨v, us, rfl, _, h2⟩ := h
    obtain ⟨w, q1, q2⟩ := RepL.get h2 i x (by simpa using e)
    exact ⟨w, by simpa using q1, q2⟩
theorem RepL.get' {B : Bk} {F : Hp} {m : List Addr} {ds : List D} {vs : List V} (h : RepL B F m ds vs) (i : Nat) (v : V) (e : vs[i]? = some v) : ∃ d, ds[i]? = some d ∧ Rep B F m d v := by
  have hl := h.length
  have hi : i < vs.length := (List.getElem?_eq_some_iff.mp e).1
  have hd : i < ds.length := by omega
  obtain ⟨w, q1, q2⟩ := h.get i ds[i] (List.getElem?_eq_getElem hd)
  rw [e] at q1
  cases q1
  exact ⟨ds[i], List.getElem?_eq_getElem hd, q2⟩
theorem RepL.append {B : Bk} {F : Hp} {m : List Addr} : ∀ {ds es : List D} {vs us : List V}, RepL B F m ds vs → RepL B F m es us → RepL B F m (ds ++ es) (vs ++ us)
  | [], _, _, _, h, q => by
    have h : _ = [] := h
    subst h
    exact q
  | d :: r, _, _, _, h, q => by
    obtain ⟨v, ws, rfl, h1, h2⟩ := h
    exact ⟨v, ws ++ _, rfl, h1, RepL.append h2 q⟩
theorem RepL.one {B : Bk} {F : Hp} {m : List Addr} {d : D} {v : V} (h : Rep B F m d v) : RepL B F m [d] [v] := ⟨v, [], rfl, h, rfl⟩
theorem RepL.set {B : Bk} {F : Hp} {m : List Addr} {d : D} {v : V} (h : Rep B F m d v) : ∀ {ds : List D} {vs : List V} (i : Nat), RepL B F m ds vs → RepL B F m (ds.set i d) (vs.set i v)
  | [], _, _, q => by
    have q : _ = [] := q
    subst q
    exact rfl
  | x :: r, _, 0, q => by
    obtain ⟨w, us, rfl, _, h2⟩ := q
    exact ⟨v, us, rfl, h, h2⟩
  | x :: r, _, i + 1, q => by
    obtain ⟨w, us, rfl, h1, h2⟩ := q
    exact ⟨w, us.set i v, rfl, h1, RepL.set h i h2⟩
theorem RepL.of_get {B : Bk} {F : Hp} {m : List Addr} : ∀ {ds : List D} {vs : List V}, ds.length = vs.length → (∀ (i : Nat) (d : D) (v : V), ds[i]? = some d → vs[i]? = some v → Rep B F m d v) → RepL B F m ds vs
  | [], [], _, _ => rfl
  | [], _ :: _, h, _ => by simp at h
  | _ :: _, [], h, _ => by simp at h
  | d :: r, v :: us, h, q => ⟨v, us, rfl, q 0 d v rfl rfl, RepL.of_get (by simpa using h) fun i x y h1 h2 => q (i + 1) x y (by simpa using h1) (by simpa using h2)⟩

/-! ### the store -/
def CellOk (B : Bk) (F : Hp) (m : List Addr) (H : Hp) (a : Addr) : Cell → Prop
  | .own xs => F a = none ∧ ∃ vs, H a = some (.lst vs) ∧ RepL B F m xs vs
  | .shr xs => F a = none ∧ ∃ vs, H a = some (.lst vs) ∧ RepL B F m xs vs
  | .frz d => Rep B F m d (.ref a) ∧ ∃ o, F a = some o
/-- R: things that stand by themselves meanwhile -/
structure SOk (B : Bk) (R : Hp) (F : Hp) (m : List Addr) (μ : Store) (H : Hp) : Prop where
  sub : Same F H
  len : m.length = μ.length
  cell : ∀ (k : Nat) (c : Cell), μ[k]? = some c → ∃ a, m[k]? = some a ∧ CellOk B F m H a c
  nd : m.Nodup
  nr : ∀ (k : Nat) (c : Cell), μ[k]? = some c → c.nr = true
  fr : Same R H
  ap : ∀ a o, R a = some o → F a = none ∧ a ∉ m
theorem nodup_at {m : List Addr} (h : m.Nodup) : ∀ {j k : Nat} {a : Addr}, m[j]? = some a → m[k]? = some a → j = k := by
  intro j k a h1 h2
  obtain ⟨l1, e1⟩ := List.getElem?_eq_some_iff.mp h1
  obtain ⟨l2, e2⟩ := List.getElem?_eq_some_iff.mp h2
  have hp := List.pairwise_iff_getElem.mp h
  rcases Nat.lt_trichotomy j k with q | q | q
  · exact absurd (e1.trans e2.symm) (hp j k l1 l2 q)
  · exact q
  · exact absurd (e2.trans e1.symm) (hp k j l2 l1 q)
section
variable {B : Bk} {R F F' : Hp} {m m' : List Addr} {μ μ' : Store} {H H' : Hp}
theorem CellOk.there {a : Addr} {c : Cell} (s : Same F H) (h : CellOk B F m H a c) : ∃ o, H a = some o := by
  cases c with
  | own xs =>
    obtain ⟨_, vs, e, _⟩ := h
    exact ⟨_, e⟩
  | shr xs =>
    obtain ⟨_, vs, e, _⟩ := h
    exact ⟨_, e⟩
  | frz d =>
    obtain ⟨_, o, e⟩ := h
    exact ⟨o, s _ _ e⟩
theorem SOk.there (so : SOk B R F m μ H) {k : Nat} {a : Addr} (e : m[k]? = some a) : ∃ o, H a = some o := by
  have hk : k < μ.length := by
    have := (List.getElem?_eq_some_iff.mp e).1
    rw [so.len] at this
    exact this
  obtain ⟨b, e', h⟩ := so.cell k _ (List.getElem?_eq_getElem hk)
  rw [e] at e'
  cases e'
  exact h.there so.sub
theorem SOk.fresh (so : SOk B R F m μ H) {p : Addr} (hp : H p = none) : F p = none ∧ p ∉ m := by
  refine ⟨so.sub.free hp, fun hm => ?_⟩
  obtain ⟨k, hk, e⟩ := List.mem_iff_getElem.mp hm
  obtain ⟨o, q⟩ := so.there (k := k) (a := p) (List.getElem?_eq_some_iff.mpr ⟨hk, e⟩)
  rw [hp] at q
  cases q
theorem same_new {p : Addr} {o : HO} (h : F p = none) : Same F (upd F p o) := fun b x e => by
  rw [upd_ne (ne_of_none e h)]
  exact e
theorem Grow.new {p : Addr} {o : HO} (h : F p = none) : Grow F m (upd F p o) m := ⟨same_new h, fun _ _ e => e⟩
/-- a new thing, at once data -/
theorem SOk.new (so : SOk B R F m μ H) {p : Addr} {o : HO} (hp : H p = none) : Grow F m (upd F p o) m ∧ SOk B R (upd F p o) m μ (upd H p o) := by
  obtain ⟨f1, f2⟩ := so.fresh hp
  have g : Grow F m (upd F p o) m := Grow.new f1
  refine ⟨g, ⟨fun b x e => ?_, so.len, fun k c hk => ?_, so.nd, so.nr, fun b x e => ?_, fun b x e => ?_⟩⟩
  · by_cases hb : b = p
    · subst hb
      rw [upd_same] at e ⊢
      exact e
    · rw [upd_ne hb] at e ⊢
      exact so.sub b x e
  · obtain ⟨a, ea, h⟩ := so.cell k c hk
    have na : a ≠ p := fun e => by
      subst e
      exact f2 (List.mem_iff_getElem?.mpr ⟨k, ea⟩)
    refine ⟨a, ea, ?_⟩
    cases c with
    | own xs =>
      obtain ⟨h1, vs, h2, h3⟩ := h
      exact ⟨by rw [upd_ne na]; exact h1, vs, by rw [upd_ne na]; exact h2, RepL.mono g _ _ h3⟩
    | shr xs =>
      obtain ⟨h1, vs, h2, h3⟩ := h
      exact ⟨by rw [upd_ne na]; exact h1, vs, by rw [upd_ne na]; exact h2, RepL.mono g _ _ h3⟩
    | frz d =>
      obtain ⟨h1, x, h2⟩ := h
      exact ⟨Rep.mono g _ _ h1, x, g.sub _ _ h2⟩
  · have nb : b ≠ p := ne_of_none (so.fr b x e) hp
    rw [upd_ne nb]
    exact so.fr b x e
  · have nb : b ≠ p := ne_of_none (so.fr b x e) hp
    obtain ⟨q1, q2⟩ := so.ap b x e
    exact ⟨by rw [upd_ne nb]; exact q1, q2⟩
/-- a new list, to be shared -/
theorem SOk.newShr (so : SOk B R F m μ H) {p : Addr} {vs : List V} {ds : List D} (hp : H p = none) (r : RepL B F m ds vs) (hr : D.nrL ds = true) :
    Grow F m F (m ++ [p]) ∧ SOk B R F (m ++ [p]) (μ ++ [.shr ds]) (upd H p (.lst vs)) := by
  obtain ⟨f1, f2⟩ := so.fresh hp
  have g : Grow F m F (m ++ [p]) := ⟨Same.refl F, fun k a e => by
    rw [List.getElem?_append_left (List.getElem?_eq_some_iff.mp e).1]
    exact e⟩
  refine ⟨g, ⟨fun b x e => ?_, ?_, fun k c hk => ?_, ?_, fun k c hk => ?_, fun b x e => ?_, fun b x e => ?_⟩⟩
  · rw [upd_ne (ne_of_none e f1)]
    exact so.sub b x e
  · rw [List.length_append, List.length_append, so.len]
    rfl
  · by_cases hl : k < μ.length
    · rw [List.getElem?_append_left hl] at hk
      obtain ⟨a, ea, h⟩ := so.cell k c hk
      have na : a ≠ p := fun e => by
        subst e
        exact f2 (List.mem_iff_getElem?.mpr ⟨k, ea⟩)
      refine ⟨a, g.pre _ _ ea, ?_⟩
      cases c with
      | own xs =>
        obtain ⟨h1, ws, h2, h3⟩ := h
        exact ⟨h1, ws, by rw [upd_ne na]; exact h2, RepL.mono g _ _ h3⟩
      | shr xs =>
        obtain ⟨h1, ws, h2, h3⟩ := h
        exact ⟨h1, ws, by rw [upd_ne na]; exact h2, RepL.mono g _ _ h3⟩
      | frz d =>
        obtain ⟨h1, x, h2⟩ := h
        exact ⟨Rep.mono g _ _ h1, x, h2⟩
    · have hk' : k = μ.length := by
        have := (List.getElem?_eq_some_iff.mp hk).1
        rw [List.length_append] at this
        have h1 : [Cell.shr ds].length = 1 := rfl
        omega
      subst hk'
      rw [List.getElem?_append_right (Nat.le_refl _), Nat.sub_self] at hk
      have hc : c = .shr ds := (Option.some.inj hk).symm
      subst hc
      refine ⟨p, ?_, f1, vs, upd_same, RepL.mono g _ _ r⟩
      rw [← so.len, List.getElem?_append_right (Nat.le_refl _), Nat.sub_self]
      rfl
  · rw [List.nodup_append]
    exact ⟨so.nd, by simp, fun a ha b hb => by
      rw [List.mem_singleton] at hb
      subst hb
      exact fun e => f2 (e ▸ ha)⟩
  · by_cases hl : k < μ.length
    · rw [List.getElem?_append_left hl] at hk
      exact so.nr k c hk
    · rw [List.getElem?_append_right (by omega)] at hk
      have hm := List.mem_of_getElem? hk
      rw [List.mem_singleton] at hm
      subst hm
      exact hr
  · have nb : b ≠ p := ne_of_none (so.fr b x e) hp
    rw [upd_ne nb]
    exact so.fr b x e
  · have nb : b ≠ p := ne_of_none (so.fr b x e) hp
    obtain ⟨q1, q2⟩ := so.ap b x e
    exact ⟨q1, fun hm => by
      rcases List.mem_append.mp hm with h | h
      · exact q2 h
      · rw [List.mem_singleton] at h
        exact nb h⟩
/-- a list of the store is changed -/
theorem SOk.put (so : SOk B R F m μ H) {k : Nat} {a : Addr} {vs : List V} {ds : List D} {c : Cell} (ea : m[k]? = some a) (hF : F a = none) (r : RepL B F m ds vs) (hr : D.nrL ds = true)
    (hc : c = .own ds ∨ c = .shr ds) : SOk B R F m (μ.set k c) (upd H a (.lst vs)) := by
  refine ⟨fun b x e => ?_, ?_, fun j c' hj => ?_, so.nd, fun j c' hj => ?_, fun b x e => ?_, so.ap⟩
  · rw [upd_ne (ne_of_none e hF)]
    exact so.sub b x e
  · rw [List.length_set]
    exact so.len
  · by_cases hjk : k = j
    · subst hjk
      have hl : k < μ.length := by
        have := (List.getElem?_eq_some_iff.mp hj).1
        rw [List.length_set] at this
        exact this
      rw [List.getElem?_set_self hl] at hj
      have e := Option.some.inj hj
      subst e
      refine ⟨a, ea, ?_⟩
      rcases hc with rfl | rfl
      · exact ⟨hF, vs, upd_same, r⟩
      · exact ⟨hF, vs, upd_same, r⟩
    · rw [List.getElem?_set_ne hjk] at hj
      obtain ⟨b, eb, h⟩ := so.cell j c' hj
      have nb : b ≠ a := fun e => by
        subst e
        exact hjk (nodup_at so.nd ea eb)
      refine ⟨b, eb, ?_⟩
      cases c' with
      | own xs =>
        obtain ⟨h1, ws, h2, h3⟩ := h
        exact ⟨h1, ws, by rw [upd_ne nb]; exact h2, h3⟩
      | shr xs =>
        obtain ⟨h1, ws, h2, h3⟩ := h
        exact ⟨h1, ws, by rw [upd_ne nb]; exact h2, h3⟩
      | frz d => exact h
  · by_cases hjk : k = j
    · subst hjk
      have hl : k < μ.length := by
        have := (List.getElem?_eq_some_iff.mp hj).1
        rw [List.length_set] at this
        exact this
      rw [List.getElem?_set_self hl] at hj
      have e := Option.some.inj hj
      subst e
      rcases hc with rfl | rfl
      · exact hr
      · exact hr
    · rw [List.getElem?_set_ne hjk] at hj
      exact so.nr j c' hj
  · have nb : b ≠ a := fun z => by
      subst z
      exact (so.ap b x e).2 (List.mem_of_getElem? ea)
    rw [upd_ne nb]
    exact so.fr b x e
/-- a list of the store becomes data -/
theorem SOk.freeze (so : SOk B R F m μ H) {k : Nat} {xs : List D} (hk : μ[k]? = some (.own xs)) :
    ∃ a vs, m[k]? = some a ∧ Grow F m (upd F a (.lst vs)) m ∧ SOk B R (upd F a (.lst vs)) m (μ.set k (.frz (.lst xs))) H ∧ Rep B (upd F a (.lst vs)) m (.lst xs) (.ref a) := by
  have hnr : D.nrL xs = true := so.nr k _ hk
  obtain ⟨a, ea, hF, vs, hH, r⟩ := so.cell k _ hk
  have g : Grow F m (upd F a (.lst vs)) m := Grow.new hF
  have rp : Rep B (upd F a (.lst vs)) m (.lst xs) (.ref a) := ⟨a, vs, rfl, upd_same, RepL.mono g _ _ r⟩
  refine ⟨a, vs, ea, g, ⟨fun b x e => ?_, ?_, fun j c' hj => ?_, so.nd, fun j c' hj => ?_, so.fr, fun b x e => ?_⟩, rp⟩
  · by_cases hb : b = a
    · subst hb
      rw [upd_same] at e
      rw [← e]
      exact hH
    · rw [upd_ne hb] at e
      exact so.sub b x e
  · rw [List.length_set]
    exact so.len
  · by_cases hjk : k = j
    · subst hjk
      rw [List.getElem?_set_self (List.getElem?_eq_some_iff.mp hk).1] at hj
      have e := Option.some.inj hj
      subst e
      exact ⟨a, ea, rp, _, upd_same⟩
    · rw [List.getElem?_set_ne hjk] at hj
      obtain ⟨b, eb, h⟩ := so.cell j c' hj
      have nb : b ≠ a := fun e => by
        subst e
        exact hjk (nodup_at so.nd ea eb)
      refine ⟨b, eb, ?_⟩
      cases c' with
      | own ys =>
        obtain ⟨h1, ws, h2, h3⟩ := h
        exact ⟨by rw [upd_ne nb]; exact h1, ws, h2, RepL.mono g _ _ h3⟩
      | shr ys =>
        obtain ⟨h1, ws, h2, h3⟩ := h
        exact ⟨by rw [upd_ne nb]; exact h1, ws, h2, RepL.mono g _ _ h3⟩
      | frz d =>
        obtain ⟨h1, x, h2⟩ := h
        exact ⟨Rep.mono g _ _ h1, x, g.sub _ _ h2⟩
  · by_cases hjk : k = j
    · subst hjk
      rw [List.getElem?_set_self (List.getElem?_eq_some_iff.mp hk).1] at hj
      have e := Option.some.inj hj
      subst e
      exact hnr
    · rw [List.getElem?_set_ne hjk] at hj
      exact so.nr j c' hj
  · obtain ⟨q1, q2⟩ := so.ap b x e
    have nb : b ≠ a := fun z => by
      subst z
      exact q2 (List.mem_of_getElem? ea)
    exact ⟨by rw [upd_ne nb]; exact q1, q2⟩
/-- the last cells are let go -/
theorem SOk.cut (so : SOk B R F m' μ' H) (n : Nat) : SOk B R F (m'.take n) (μ'.take n) H := by
  refine ⟨so.sub, by rw [List.length_take, List.length_take, so.len], fun k c hk => ?_, so.nd.sublist (List.take_sublist _ _), fun k c hk => ?_, so.fr, fun b x e => ⟨(so.ap b x e).1, fun hm => (so.ap b x e).2 (List.mem_of_mem_take hm)⟩⟩
  · have hkn : k < n := by
      have := (List.getElem?_eq_some_iff.mp hk).1
      rw [List.length_take] at this
      omega
    rw [List.getElem?_take_of_lt hkn] at hk
    obtain ⟨a, ea, h⟩ := so.cell k c hk
    have hi := so.nr k c hk
    refine ⟨a, (List.getElem?_take_of_lt hkn).trans ea, ?_⟩
    cases c with
    | own xs =>
      obtain ⟨h1, ws, h2, h3⟩ := h
      exact ⟨h1, ws, h2, RepL.any _ _ hi h3⟩
    | shr xs =>
      obtain ⟨h1, ws, h2, h3⟩ := h
      exact ⟨h1, ws, h2, RepL.any _ _ hi h3⟩
    | frz d =>
      obtain ⟨h1, x, h2⟩ := h
      exact ⟨Rep.any _ _ hi h1, x, h2⟩
  · have hkn : k < n := by
      have := (List.getElem?_eq_some_iff.mp hk).1
      rw [List.length_take] at this
      omega
    rw [List.getElem?_take_of_lt hkn] at hk
    exact so.nr k c hk
/-- a new thing that stands by itself -/
theorem SOk.hold (so : SOk B R F m μ H) {p : Addr} {o : HO} (hp : H p = none) : SOk B (upd R p o) F m μ (upd H p o) := by
  obtain ⟨f1, f2⟩ := so.fresh hp
  refine ⟨fun b x e => ?_, so.len, fun k c hk => ?_, so.nd, so.nr, fun b x e => ?_, fun b x e => ?_⟩
  · rw [upd_ne (ne_of_none e f1)]
    exact so.sub b x e
  · obtain ⟨a, ea, h⟩ := so.cell k c hk
    have na : a ≠ p := fun e => by
      subst e
      exact f2 (List.mem_of_getElem? ea)
    refine ⟨a, ea, ?_⟩
    cases c with
    | own xs =>
      obtain ⟨h1, vs, h2, h3⟩ := h
      exact ⟨h1, vs, by rw [upd_ne na]; exact h2, h3⟩
    | shr xs =>
      obtain ⟨h1, vs, h2, h3⟩ := h
      exact ⟨h1, vs, by rw [upd_ne na]; exact h2, h3⟩
    | frz d => exact h
  · by_cases hb : b = p
    · subst hb
      rw [upd_same] at e ⊢
      exact e
    · rw [upd_ne hb] at e ⊢
      exact so.fr b x e
  · by_cases hb : b = p
    · subst hb
      exact ⟨f1, f2⟩
    · rw [upd_ne hb] at e
      exact so.ap b x e
/-- it is changed -/
theorem SOk.turn {p : Addr} {o o' : HO} (so : SOk B (upd R p o) F m μ H) : SOk B (upd R p o') F m μ (upd H p o') := by
  obtain ⟨f1, f2⟩ := so.ap p o upd_same
  refine ⟨fun b x e => ?_, so.len, fun k c hk => ?_, so.nd, so.nr, fun b x e => ?_, fun b x e => ?_⟩
  · rw [upd_ne (ne_of_none e f1)]
    exact so.sub b x e
  · obtain ⟨a, ea, h⟩ := so.cell k c hk
    have na : a ≠ p := fun e => by
      subst e
      exact f2 (List.mem_of_getElem? ea)
    refine ⟨a, ea, ?_⟩
    cases c with
    | own xs =>
      obtain ⟨h1, vs, h2, h3⟩ := h
      exact ⟨h1, vs, by rw [upd_ne na]; exact h2, h3⟩
    | shr xs =>
      obtain ⟨h1, vs, h2, h3⟩ := h
      exact ⟨h1, vs, by rw [upd_ne na]; exact h2, h3⟩
    | frz d => exact h
  · by_cases hb : b = p
    · subst hb
      rw [upd_same] at e ⊢
      exact e
    · rw [upd_ne hb] at e ⊢
      exact so.fr b x (by rw [upd_ne hb]; exact e)
  · by_cases hb : b = p
    · subst hb
      exact ⟨f1, f2⟩
    · rw [upd_ne hb] at e
      exact so.ap b x (by rw [upd_ne hb]; exact e)
/-- it becomes data -/
theorem SOk.give {p : Addr} {o : HO} (so : SOk B (upd R p o) F m μ H) (hR : R p = none) : Grow F m (upd F p o) m ∧ SOk B R (upd F p o) m μ H := by
  obtain ⟨f1, f2⟩ := so.ap p o upd_same
  have g : Grow F m (upd F p o) m := Grow.new f1
  have rr : ∀ {b x}, R b = some x → b ≠ p := fun e => ne_of_none e hR
  refine ⟨g, ⟨fun b x e => ?_, so.len, fun k c hk => ?_, so.nd, so.nr, fun b x e => ?_, fun b x e => ?_⟩⟩
  · by_cases hb : b = p
    · subst hb
      rw [upd_same] at e
      rw [← e]
      exact so.fr b o upd_same
    · rw [upd_ne hb] at e
      exact so.sub b x e
  · obtain ⟨a, ea, h⟩ := so.cell k c hk
    have na : a ≠ p := fun e => by
      subst e
      exact f2 (List.mem_of_getElem? ea)
    refine ⟨a, ea, ?_⟩
    cases c with
    | own xs =>
      obtain ⟨h1, vs, h2, h3⟩ := h
      exact ⟨by rw [upd_ne na]; exact h1, vs, h2, RepL.mono g _ _ h3⟩
    | shr xs =>
      obtain ⟨h1, vs, h2, h3⟩ := h
      exact ⟨by rw [upd_ne na]; exact h1, vs, h2, RepL.mono g _ _ h3⟩
    | frz d =>
      obtain ⟨h1, x, h2⟩ := h
      exact ⟨Rep.mono g _ _ h1, x, g.sub _ _ h2⟩
  · exact so.fr b x (by rw [upd_ne (rr e)]; exact e)
  · obtain ⟨q1, q2⟩ := so.ap b x (by rw [upd_ne (rr e)]; exact e)
    exact ⟨by rw [upd_ne (rr e)]; exact q1, q2⟩
end

def RepX (B : Bk) (F : Hp) (m : List Addr) (x : Exc) (cls : Value) (dx : Option Addr) : Prop :=
  ∃ ns, B.exc[x.c]? = some (cls, ns) ∧ ((ns = [] ∧ x.ds = [] ∧ dx = none) ∨ ∃ d vs, dx = some d ∧ ns.length = vs.length ∧ F d = some (.xd (ns.zip vs)) ∧ RepL B F m x.ds vs)
end Sg
/-! Sg3: judgements; the checker; the rules for expressions. -/
namespace Sg
open PySem L2

/-! ### what code does, said by the machine itself -/
def SE (X : Cx) (e : Expr) : TE := fun σ H Q => ∀ (pins : List (Addr × Obj)) (s : Shared), L2.Inv X pins σ H s → wpAny (model X.prog X.w) X.A (eval e X.env) (EP X pins σ Q) X.xe s
theorem pe_se (X : Cx) (e : Expr) : PE X e (SE X e) := ⟨fun pins s σ H Q I h => h pins s I⟩
theorem SE.of {X : Cx} {e : Expr} {t : TE} {σ : St} {H : Hp} {Q : VK} (h : PE X e t) (q : t σ H Q) : SE X e σ H Q := fun pins s I => h.run pins s σ H Q I q
def ST (X : Cx) (e : Expr) : TT := fun σ H Q => ∀ (pins : List (Addr × Obj)) (s : Shared), L2.Inv X pins σ H s → wpAny (model X.prog X.w) X.A (isTrue e X.env (eval e X.env)) (TP X pins σ Q) X.xe s
theorem pt_st (X : Cx) (e : Expr) : PT X e (ST X e) := ⟨fun pins s σ H Q I h => h pins s I⟩
theorem ST.of {X : Cx} {e : Expr} {t : TT} {σ : St} {H : Hp} {Q : Bool → Hp → Prop} (h : PT X e t) (q : t σ H Q) : ST X e σ H Q := fun pins s I => h.run pins s σ H Q I q
def SA (X : Cx) (es : List Expr) : TA := fun σ H Q => ∀ (pos : Pos) (pins : List (Addr × Obj)) (s : Shared), L2.Inv X pins σ H s → wpAny (model X.prog X.w) X.A (spliced (backTo pos (starEach es X.env))) (AP X pins σ Q) X.xe s
theorem pa_sa (X : Cx) (es : List Expr) : PA X es (SA X es) := ⟨fun pos pins s σ H Q I h => h pos pins s I⟩
theorem SA.of {X : Cx} {es : List Expr} {t : TA} {σ : St} {H : Hp} {Q : List V → Hp → Prop} (h : PA X es t) (q : t σ H Q) : SA X es σ H Q := fun pos pins s I => h.run pos pins s σ H Q I q
def SO (X : Cx) (e : Option Expr) : TO := fun σ H Q => ∀ (pins : List (Addr × Obj)) (s : Shared), L2.Inv X pins σ H s →
  wpAny (model X.prog X.w) X.A (evalPart e X.env) (fun u s' => ∃ o H', L2.Inv X pins σ H' s' ∧ IsPart u o ∧ Q o H') X.xe s
theorem po_so (X : Cx) (e : Option Expr) : PO X e (SO X e) := ⟨fun pins s σ H Q I h => h pins s I⟩
def SB (X : Cx) (f : Value → Value → Sem Value) : R2 := fun x y H Q => ∀ (pins : List (Addr × Obj)) (s : Shared) (σ : St) (v u : Value), L2.Inv X pins σ H s → RelV x v → RelV y u → wpAny (model X.prog X.w) X.A (f v u) (EP X pins σ Q) X.xe s
theorem op_sb (X : Cx) (f : Value → Value → Sem Value) : OpR X f (SB X f) := fun pins s σ H x y v u Q I rx ry h => h pins s σ v u I rx ry
theorem SB.of {X : Cx} {f : Value → Value → Sem Value} {r : R2} {x y : V} {H : Hp} {Q : VK} (h : OpR X f r) (q : r x y H Q) : SB X f x y H Q := fun pins s σ v u I rx ry => h pins s σ H x y v u Q I rx ry q
def SC (X : Cx) (f : Value) : List V → Hp → VK → Prop := fun xs H Q => ∀ (pins : List (Addr × Obj)) (s : Shared) (σ : St) (us : List Value), L2.Inv X pins σ H s → Vals xs us → wpAny (model X.prog X.w) X.A (call f us) (EP X pins σ Q) X.xe s
theorem call_sc (X : Cx) (f : Value) : CallR X f (SC X f) := fun pins s σ H xs us Q I rx h => h pins s σ us I rx
theorem SC.of {X : Cx} {f : Value} {r : List V → Hp → VK → Prop} {xs : List V} {H : Hp} {Q : VK} (h : CallR X f r) (q : r xs H Q) : SC X f xs H Q := fun pins s σ us I rx => h pins s σ H xs us Q I rx q

/-! ### what follows -/
def Post {α : Type} (B : Bk) (R : Hp) (W : WX) (σ : St) (F : Hp) (m : List Addr) (r : Except Exc α × Store) (K : Hp → List Addr → Hp → α → Prop) : Prop := match r with
  | (.ok a, μ') => ∀ F' m' H', Grow F m F' m' → SOk B R F' m' μ' H' → K F' m' H' a
  | (.error x, μ') => ∀ F' m' H' cls dx, Grow F m F' m' → SOk B R F' m' μ' H' → RepX B F' m' x cls dx → W cls dx σ H'
section
variable {α β : Type} {B : Bk} {R : Hp} {W : WX} {σ : St} {F F1 : Hp} {m m1 : List Addr} {μ : Store} {x : M α} {k : α → M β} {r : Except Exc β × Store} {Ka : Hp → List Addr → Hp → α → Prop} {Kb : Hp → List Addr → Hp → β → Prop}
theorem Post.grow (h : Post B R W σ F m r Kb) (g : Grow F m F1 m1) : Post B R W σ F1 m1 r Kb := by
  obtain ⟨r1, r2⟩ := r
  cases r1 with
  | ok a => exact fun F' m' H' g' => h F' m' H' (g.trans g')
  | error x => exact fun F' m' H' cls dx g' => h F' m' H' cls dx (g.trans g')
theorem bd_post (h : bd x k μ = some r) (hp : Post B R W σ F m r Kb) (hk : ∀ a μ1, x μ = some (.ok a, μ1) → k a μ1 = some r → ∀ F1 m1 H1, Grow F m F1 m1 → SOk B R F1 m1 μ1 H1 → Ka F1 m1 H1 a) :
    ∃ ra, x μ = some ra ∧ Post B R W σ F m ra Ka := by
  unfold bd at h
  cases e : x μ with
  | none =>
    rw [e] at h
    cases h
  | some ra =>
    rw [e] at h
    obtain ⟨r1, μ1⟩ := ra
    refine ⟨_, rfl, ?_⟩
    cases r1 with
    | ok a => exact fun F' m' H' g so => hk a μ1 e h F' m' H' g so
    | error z =>
      have h := Option.some.inj h
      subst h
      exact hp
theorem up_some {o : Option α} {r : Except Exc α × Store} (h : up o μ = some r) : ∃ a, o = some a ∧ r = (.ok a, μ) := by
  unfold up at h
  cases o with
  | none => cases h
  | some a => exact ⟨a, rfl, (Option.some.inj h).symm⟩
theorem rt_some {a : α} {r : Except Exc α × Store} (h : rt a μ = some r) : r = (.ok a, μ) := (Option.some.inj h).symm
end

/-! ### the values of the names -/
structure ROk (B : Bk) (F : Hp) (m : List Addr) (ρ : Rho) (σ : St) : Prop where
  len : ρ.length = σ.length
  val : ∀ (i : Nat) (d : D), ρ[i]? = some (some d) → ∃ v, σ[i]? = some (some v) ∧ Rep B F m d v
section
variable {B : Bk} {F F' : Hp} {m m' : List Addr} {ρ : Rho} {σ : St}
theorem ROk.mono (h : ROk B F m ρ σ) (g : Grow F m F' m') : ROk B F' m' ρ σ := ⟨h.len, fun i d e => by
  obtain ⟨v, h1, h2⟩ := h.val i d e
  exact ⟨v, h1, Rep.mono g d v h2⟩⟩
theorem ROk.set (h : ROk B F m ρ σ) (i : Nat) {d : D} {v : V} (r : Rep B F m d v) : ROk B F m (ρ.set i (some d)) (σ.set i (some v)) := by
  refine ⟨by rw [List.length_set, List.length_set]; exact h.len, fun j x e => ?_⟩
  by_cases hj : i = j
  · subst hj
    have hl : i < ρ.length := by
      have := (List.getElem?_eq_some_iff.mp e).1
      rw [List.length_set] at this
      exact this
    rw [List.getElem?_set_self hl] at e
    have e := Option.some.inj (Option.some.inj e)
    subst e
    exact ⟨v, List.getElem?_set_self (by rw [← h.len]; exact hl), r⟩
  · rw [List.getElem?_set_ne hj] at e ⊢
    exact h.val j x e
theorem ROk.gone (h : ROk B F m ρ σ) (i : Nat) : ROk B F m (ρ.set i none) (σ.set i none) := by
  refine ⟨by rw [List.length_set, List.length_set]; exact h.len, fun j x e => ?_⟩
  by_cases hj : i = j
  · subst hj
    have hl : i < ρ.length := by
      have := (List.getElem?_eq_some_iff.mp e).1
      rw [List.length_set] at this
      exact this
    rw [List.getElem?_set_self hl] at e
    cases e
  · rw [List.getElem?_set_ne hj] at e ⊢
    exact h.val j x e
theorem ROk.wipe (h : ROk B F m ρ σ) : ∀ vs : List Nat, ROk B F m (wipeR ρ vs) (L2.wipe σ vs)
  | [] => h
  | v :: vs => (ROk.wipe h vs).gone v
end

/-! ### the law's fixed things, a def's names -/
structure Gx where
  gd : Bool
  P : Program
  w : World
  mg : Str → Option Value
  base : Heap
  B : Bk
  lv : Nat
structure CT where
  N : List Str
  sc : Scope
  fn : Str → Bool
  fns : List Str
  cons : List Str

/-- as the layer's own word for a def, where nothing is being shown if gd -/
structure FnG (gd : Bool) (P : Program) (w : World) (K : PySem.W.Frag) (mg : Str → Option Value) (base : Heap) (k : Nat) (f : Addr) (fd : FuncData) (ps : List Str) (sp : Sp) : Prop where
  len : ∀ vs H Q E, sp vs H Q E → vs.length = ps.length
  run : ∀ (A : Around) (outer : List Env) (s : Shared) (H : Hp) (args : Args) (us : List Value) (vs : List V) (Q : VK) (E : XK),
    Room k A → (gd = true → A.guards = some []) → Env0 P w K mg base A outer s H → BindsTo s fd args (ps.zip us) → Vals vs us → sp vs H Q E →
      codeAny (model P w) A (.call (.ref f) args) (CR (L2.CX P w) outer P w H s Q E) s
theorem FnG.mono {gd : Bool} {P : Program} {w : World} {K : PySem.W.Frag} {mg : Str → Option Value} {base : Heap} {j k : Nat} {f : Addr} {fd : FuncData} {ps : List Str} {sp : Sp}
    (F : FnG gd P w K mg base j f fd ps sp) (h : j ≤ k) : FnG gd P w K mg base k f fd ps sp :=
  ⟨F.len, fun A outer s H args us vs Q E hr => F.run A outer s H args us vs Q E (hr.mono h)⟩

/-- what a def promises: t, upon data -/
def Prm (B : Bk) (t : List D → M D) : Sp := fun vs H Q E => ∃ R F m μ ds r, SOk B R F m μ H ∧ RepL B F m ds vs ∧ t ds μ = some r ∧
  Post B R (fun cls dx _ H' => E cls dx H') [] F m r (fun F' m' H' d => ∀ v, Rep B F' m' d v → Q v H')

def bltNames : List Str := ["len", "abs", "int", "max", "min", "all", "repr", "isinstance", "range", "str", "tuple", "list", "dict", "bool", "sum", "any", "sorted", "zip", "enumerate", "set"]
structure FnsOk (g : Gx) (T : Tab) (fns cons : List Str) : Prop where
  ln : T.fns.length = fns.length
  fn : ∀ (i : Nat) (t : List D → M D) (x : Str), T.fns[i]? = some t → fns[i]? = some x →
    ∃ f fd ps, g.mg x = some (.ref f) ∧ PySem.W.keepIn g.B.K (.ref f) = true ∧ Binds g.B.K fd ps [] ∧ FnG g.gd g.P g.w g.B.K g.mg g.base g.lv f fd ps (Prm g.B t)
  con : ∀ (i : Nat) (d : D) (x : Str), T.cons[i]? = some d → cons[i]? = some x → ∃ u v, g.mg x = some u ∧ RelV v u ∧ ∀ F m, Rep g.B F m d v
  blt : ∀ x ∈ bltNames, g.mg x = none
structure CxOk (g : Gx) (ct : CT) (W : WX) (X : Cx) : Prop where
  prog : X.prog = g.P
  w : X.w = g.w
  K : X.K = g.B.K
  mg : X.mg = g.mg
  base : X.base = g.base
  N : X.N = ct.N
  sc : X.env.scope = ct.sc
  nd : ct.N.Nodup
  calm : X.calm = true
  room : Room g.lv X.A
  gu : g.gd = true → X.A.guards = some []
  fn : ∀ x, ct.fn x = true → X.fn x = true
  pas : PassesOwn (model X.prog X.w) X.A X.env X.xe
  tk : Takes X W

/-! ### the checker -/
def chkV (ct : CT) (i : Nat) (x : Str) : Bool := decide (ct.N[i]? = some x) && (match ct.sc.names.lookup x with
  | some .local => true
  | some .cell => true
  | some .free => true
  | _ => false) && !(x == ("__debug__" : Str)) && !(x == ("__classdict__" : Str))
def chkG (ct : CT) (x : Str) : Bool := decide (ct.sc.names.lookup x = some .globalImplicit) && !(x == ("__debug__" : Str))
def Blt.nm : Blt → Str
  | .len => "len"
  | .abs => "abs"
  | .int => "int"
  | .max2 => "max"
  | .min2 => "min"
  | .all => "all"
  | .repr => "repr"
def Mth.nm : Mth → Str
  | .join => "join"
  | .upper => "upper"
def notSet : Expr → Bool
  | .Set _ _ _ => false
  | _ => true
def notSlice : Expr → Bool
  | .Slice _ _ _ _ => false
  | _ => true
def notStar : Expr → Bool
  | .Starred _ _ => false
  | _ => true
def notSuper : Expr → Bool
  | .Call _ _ _ _ => false
  | _ => true
/-- no test of its own form -/
def plainT : Expr → Bool
  | .UnaryOp .Not _ _ => false
  | .BoolOp _ _ _ => false
  | .IfExp _ _ _ _ => false
  | .Compare _ _ _ _ => false
  | _ => true
mutual
def chkTg (ct : CT) : Tg → Expr → Bool
  | .name i, e => match e with
    | .Name x _ => decide (ct.N[i]? = some x) && (match ct.sc.names.lookup x with
      | some .local => true
      | some .cell => ct.fn x
      | _ => false)
    | _ => false
  | .tup ts, e => match e with
    | .Tuple es _ _ => chkTgs ct ts es
    | _ => false
def chkTgs (ct : CT) : List Tg → List Expr → Bool
  | [], es => es.isEmpty
  | t :: ts, es => match es with
    | e :: r => notStar e && chkTg ct t e && chkTgs ct ts r
    | [] => false
end
mutual
def Tg.slots : Tg → List Nat
  | .name i => [i]
  | .tup ts => Tg.slotsL ts
def Tg.slotsL : List Tg → List Nat
  | [] => []
  | t :: ts => t.slots ++ Tg.slotsL ts
end
def CT.blk (ct : CT) (scope : Scope) : CT := { ct with sc := relS scope ct.sc, fn := fun x => scope.names.lookup x == some .cell }
mutual
def chkE (ct : CT) : E → Expr → Bool
  | .non, e => match e with
    | .Constant .none _ _ => true
    | _ => false
  | .bl b, e => match e with
    | .Constant (.bool c) _ _ => b == c
    | _ => false
  | .int i, e => match e with
    | .Constant (.int j) _ _ => i == j
    | _ => false
  | .str x, e => match e with
    | .Constant (.str y) _ _ => decide (x = y)
    | _ => false
  | .var i, e => match e with
    | .Name x _ => chkV ct i x
    | _ => false
  | .raw i, e => match e with
    | .Name x _ => chkV ct i x
    | _ => false
  | .gcon g, e => match e with
    | .Name x _ => chkG ct x && decide (ct.cons[g]? = some x)
    | _ => false
  | .bin op a b, e => match e with
    | .BinOp l o r _ => decide (o = op) && chkE ct a l && chkE ct b r
    | _ => false
  | .neg a, e => match e with
    | .UnaryOp .USub x _ => chkE ct a x
    | _ => false
  | .cmp op a b, e => match e with
    | .Compare l [o] [r] _ => decide (o = op) && notSet r && chkE ct a l && chkE ct b r
    | _ => false
  | .chain op op' a b c, e => match e with
    | .Compare l [o, o'] [r, r'] _ => decide (o = op) && decide (o' = op') && notSet r' && chkE ct a l && chkE ct b r && chkE ct c r'
    | _ => false
  | .and a b, e => match e with
    | .BoolOp .And (x :: y :: rest) pos => chkE ct a x && chkE ct b (if rest.isEmpty then y else .BoolOp .And (y :: rest) pos)
    | _ => false
  | .or a b, e => match e with
    | .BoolOp .Or (x :: y :: rest) pos => chkE ct a x && chkE ct b (if rest.isEmpty then y else .BoolOp .Or (y :: rest) pos)
    | _ => false
  | .not a, e => match e with
    | .UnaryOp .Not x _ => chkE ct a x
    | _ => false
  | .ite c a b, e => match e with
    | .IfExp t x y _ => chkB ct c t && chkE ct a x && chkE ct b y
    | _ => false
  | .tup es, e => match e with
    | .Tuple xs _ _ => chkL ct es xs
    | _ => false
  | .lst es, e => match e with
    | .List xs _ => chkL ct es xs
    | _ => false
  | .emp, e => match e with
    | .Dict [] [] _ => true
    | _ => false
  | .call f es, e => match e with
    | .Call (.Name x _) xs [] _ => chkG ct x && decide (ct.fns[f]? = some x) && chkL ct es xs
    | _ => false
  | .blt b es, e => match e with
    | .Call (.Name x _) xs [] _ => chkG ct x && decide (x = b.nm) && !xs.isEmpty && chkL ct es xs
    | _ => false
  | .isi a t, e => match e with
    | .Call (.Name x _) [y, .Name n _] [] _ => chkG ct x && decide (x = "isinstance") && chkG ct n && (match t with
      | .ty s => decide (n = Str.ofString s) && decide (s ∈ ["int", "str", "tuple", "list", "dict", "bool"])
      | .own _ => false) && notStar y && chkE ct a y
    | _ => false
  | .mth m o es, e => match e with
    | .Call (.Attribute x nm apos) xs [] pos => decide (nm = m.nm) && notSuper x && (apos.endLine == pos.line) && chkE ct o x && chkL ct es xs && decide (xs.length < 30)
    | _ => false
  | .sub o i, e => match e with
    | .Subscript x y _ => notSlice y && chkE ct o x && chkE ct i y
    | _ => false
  | .slc o lo hi, e => match e with
    | .Subscript x (.Slice l h none _) _ => chkE ct o x && chkO ct lo l && chkO ct hi h
    | _ => false
  | .lc vs tg it ifs elt, e => match e with
    | .ListComp y [⟨t, i, cs, n⟩] scope _ => decide (n = 0) && notSet i && blkC ct.N ct.sc scope (vs.map fun v => (ct.N.getD v "", v)) && (Tg.slots tg).all (fun v => decide (v ∈ vs)) &&
        chkI ct it i && chkTg (ct.blk scope) tg t && chkBs (ct.blk scope) ifs cs && chkE (ct.blk scope) elt y
    | _ => false
def chkL (ct : CT) : List E → List Expr → Bool
  | [], xs => xs.isEmpty
  | e :: es, xs => match xs with
    | x :: r => notStar x && chkE ct e x && chkL ct es r
    | [] => false
def chkO (ct : CT) : Option E → Option Expr → Bool
  | none, x => x.isNone
  | some e, x => match x with
    | some y => chkE ct e y
    | none => false
def chkB (ct : CT) : B → Expr → Bool
  | .val e, x => plainT x && chkE ct e x
  | .cmp op a b, e => match e with
    | .Compare l [o] [r] _ => decide (o = op) && notSet r && chkE ct a l && chkE ct b r
    | _ => false
  | .chain op op' a b c, e => match e with
    | .Compare l [o, o'] [r, r'] _ => decide (o = op) && decide (o' = op') && notSet r' && chkE ct a l && chkE ct b r && chkE ct c r'
    | _ => false
  | .not a, x => match x with
    | .UnaryOp .Not y _ => chkB ct a y
    | _ => false
  | .and a b, e => match e with
    | .BoolOp .And (x :: y :: rest) pos => chkB ct a x && chkB ct b (if rest.isEmpty then y else .BoolOp .And (y :: rest) pos)
    | _ => false
  | .or a b, e => match e with
    | .BoolOp .Or (x :: y :: rest) pos => chkB ct a x && chkB ct b (if rest.isEmpty then y else .BoolOp .Or (y :: rest) pos)
    | _ => false
def chkBs (ct : CT) : List B → List Expr → Bool
  | [], xs => xs.isEmpty
  | e :: es, xs => match xs with
    | x :: r => chkB ct e x && es.isEmpty && r.isEmpty
    | [] => false
def chkI (ct : CT) : I → Expr → Bool
  | .val e, x => chkE ct e x
  | .rng1 a, x => match x with
    | .Call (.Name n _) [y] [] _ => chkG ct n && decide (n = "range") && notStar y && chkE ct a y
    | _ => false
  | .rng2 a b, x => match x with
    | .Call (.Name n _) [y, z] [] _ => chkG ct n && decide (n = "range") && notStar y && notStar z && chkE ct a y && chkE ct b z
    | _ => false
end
end Sg
/-! Sg4: the operations upon data are the machine's. -/
namespace Sg
open PySem L2

section
variable {B : Bk} {F : Hp} {m : List Addr}
theorem RepL.take : ∀ (n : Nat) {ds : List D} {vs : List V}, RepL B F m ds vs → RepL B F m (ds.take n) (vs.take n)
  | 0, _, _, _ => rfl
  | n + 1, [], _, h => by
    have h : _ = [] := h
    subst h
    exact rfl
  | n + 1, d :: r, _, h => by
    obtain ⟨v, us, rfl, h1, h2⟩ := h
    exact ⟨v, us.take n, rfl, h1, RepL.take n h2⟩
theorem RepL.drop : ∀ (n : Nat) {ds : List D} {vs : List V}, RepL B F m ds vs → RepL B F m (ds.drop n) (vs.drop n)
  | 0, _, _, h => h
  | n + 1, [], _, h => by
    have h : _ = [] := h
    subst h
    exact rfl
  | n + 1, d :: r, _, h => by
    obtain ⟨v, us, rfl, h1, h2⟩ := h
    exact RepL.drop n h2
theorem RepL.cutD {ds : List D} {vs : List V} (h : RepL B F m ds vs) (lo hi : Option Int) : RepL B F m (Sg.cutD ds lo hi) (cutV vs lo hi) := by
  unfold Sg.cutD cutV
  rw [h.length]
  exact RepL.take _ (RepL.drop _ h)
theorem RepL.times {ds : List D} {vs : List V} (h : RepL B F m ds vs) : ∀ n : Nat, RepL B F m (List.replicate n ds).flatten (List.replicate n vs).flatten
  | 0 => rfl
  | n + 1 => by
    rw [List.replicate_succ, List.replicate_succ, List.flatten_cons, List.flatten_cons]
    exact RepL.append h (RepL.times h n)
theorem RepL.atI {ds : List D} {vs : List V} (h : RepL B F m ds vs) {i : Int} {d : D} (e : L2.atI ds i = some d) : ∃ v, L2.atI vs i = some v ∧ Rep B F m d v := by
  unfold L2.atI at e ⊢
  rw [← h.length]
  cases q : ixN ds.length i with
  | none =>
    rw [q] at e
    cases e
  | some j =>
    rw [q] at e
    exact h.get j d e
theorem RepL.strs : ∀ {ds : List D} {vs : List V} {ys : List Str}, RepL B F m ds vs → strs? ds = some ys → vs = ys.map V.str
  | [], _, _, h, e => by
    have h : _ = [] := h
    have e := Option.some.inj e
    subst h e
    rfl
  | .str x :: r, _, ys, h, e => by
    obtain ⟨v, us, rfl, h1, h2⟩ := h
    have h1 : v = .str x := h1
    have e : (strs? r).map (x :: ·) = some ys := e
    cases q : strs? r with
    | none =>
      rw [q] at e
      cases e
    | some zs =>
      rw [q] at e
      have e := Option.some.inj e
      subst e h1
      rw [RepL.strs h2 q]
      rfl
  | .non :: _, _, _, _, e => by cases e
  | .bl _ :: _, _, _, _, e => by cases e
  | .int _ :: _, _, _, _, e => by cases e
  | .tup _ :: _, _, _, _, e => by cases e
  | .lst _ :: _, _, _, _, e => by cases e
  | .rol _ :: _, _, _, _, e => by cases e
  | .dic _ _ :: _, _, _, _, e => by cases e
  | .ins _ _ :: _, _, _, _, e => by cases e
  | .ref _ :: _, _, _, _, e => by cases e
theorem RepL.bls : ∀ {ds : List D} {vs : List V} {ys : List Bool}, RepL B F m ds vs → bls? ds = some ys → vs = ys.map V.bl
  | [], _, _, h, e => by
    have h : _ = [] := h
    have e := Option.some.inj e
    subst h e
    rfl
  | .bl x :: r, _, ys, h, e => by
    obtain ⟨v, us, rfl, h1, h2⟩ := h
    have h1 : v = .bl x := h1
    have e : (bls? r).map (x :: ·) = some ys := e
    cases q : bls? r with
    | none =>
      rw [q] at e
      cases e
    | some zs =>
      rw [q] at e
      have e := Option.some.inj e
      subst e h1
      rw [RepL.bls h2 q]
      rfl
  | .non :: _, _, _, _, e => by cases e
  | .str _ :: _, _, _, _, e => by cases e
  | .int _ :: _, _, _, _, e => by cases e
  | .tup _ :: _, _, _, _, e => by cases e
  | .lst _ :: _, _, _, _, e => by cases e
  | .rol _ :: _, _, _, _, e => by cases e
  | .dic _ _ :: _, _, _, _, e => by cases e
  | .ins _ _ :: _, _, _, _, e => by cases e
  | .ref _ :: _, _, _, _, e => by cases e
end

mutual
theorem Rep.dp {B : Bk} {F : Hp} {m : List Addr} {H : Hp} (s : Same F H) : ∀ (d : D) (v : V) (p : PyData), Rep B F m d v → d.py = some p → Dp B.K H v p
  | .non, _, _, h, e => by
    have h : _ = V.non := h
    have e := Option.some.inj e
    subst h e
    exact .non
  | .bl b, _, _, h, e => by
    have h : _ = V.bl b := h
    have e := Option.some.inj e
    subst h e
    exact .bl b
  | .int i, _, _, h, e => by
    have h : _ = V.int i := h
    have e := Option.some.inj e
    subst h e
    exact .int i
  | .str x, _, _, h, e => by
    have h : _ = V.str x := h
    have e := Option.some.inj e
    subst h e
    exact .str x
  | .tup xs, _, p, h, e => by
    obtain ⟨a, vs, rfl, hs, r⟩ := h
    have e : (D.pyL xs).map PyData.tuple = some p := e
    cases q : D.pyL xs with
    | none =>
      rw [q] at e
      cases e
    | some ps =>
      rw [q] at e
      have e := Option.some.inj e
      subst e
      exact .tup (seqT_mono s hs) (Rep.dpL s xs vs ps r q)
  | .lst xs, _, p, h, e => by
    obtain ⟨a, vs, rfl, hs, r⟩ := h
    have e : (D.pyL xs).map PyData.list = some p := e
    cases q : D.pyL xs with
    | none =>
      rw [q] at e
      cases e
    | some ps =>
      rw [q] at e
      have e := Option.some.inj e
      subst e
      exact .lst (SqL.of (s _ _ hs)) (Rep.dpL s xs vs ps r q)
  | .rol _, _, _, _, e => by cases e
  | .dic _ _, _, _, _, e => by cases e
  | .ins _ _, _, _, _, e => by cases e
  | .ref _, _, _, _, e => by cases e
theorem Rep.dpL {B : Bk} {F : Hp} {m : List Addr} {H : Hp} (s : Same F H) : ∀ (ds : List D) (vs : List V) (ps : List PyData), RepL B F m ds vs → D.pyL ds = some ps → DpAll B.K H vs ps
  | [], _, _, h, e => by
    have h : _ = [] := h
    have e := Option.some.inj e
    subst h e
    exact .nil
  | d :: r, _, ps, h, e => by
    obtain ⟨v, us, rfl, h1, h2⟩ := h
    have e : (match D.py d, D.pyL r with
      | some x, some y => some (x :: y)
      | _, _ => none) = some ps := e
    cases q1 : D.py d with
    | none =>
      rw [q1] at e
      cases e
    | some x =>
      cases q2 : D.pyL r with
      | none =>
        rw [q1, q2] at e
        cases e
      | some y =>
        rw [q1, q2] at e
        have e := Option.some.inj e
        subst e
        exact .cons (Rep.dp s d v x h1 q1) (Rep.dpL s r us y h2 q2)
end

/-! ### what an operation leaves -/
section
variable {g : Gx} {ct : CT} {W : WX} {X : Cx} {R F : Hp} {m : List Addr} {μ : Store} {H : Hp} {Q : VK}
abbrev Aft (g : Gx) (R F : Hp) (m : List Addr) (μ : Store) (z : D) (Q : VK) : Prop := ∀ F' m' H', Grow F m F' m' → SOk g.B R F' m' μ H' → ∀ v, Rep g.B F' m' z v → Q v H'
theorem Aft.here {z : D} {v : V} (q : Aft g R F m μ z Q) (so : SOk g.B R F m μ H) (r : Rep g.B F m z v) : Q v H := q F m H (Grow.refl F m) so v r
theorem Aft.lst {ds : List D} {vs : List V} (q : Aft g R F m μ (.lst ds) Q) (so : SOk g.B R F m μ H) (r : RepL g.B F m ds vs) : ∀ p, H p = none → Q (.ref p) (upd H p (.lst vs)) := fun p hp => by
  obtain ⟨gr, so'⟩ := so.new (o := .lst vs) hp
  exact q _ m _ gr so' _ ⟨p, vs, rfl, upd_same, RepL.mono gr _ _ r⟩
theorem Aft.tup {ds : List D} {vs : List V} (q : Aft g R F m μ (.tup ds) Q) (so : SOk g.B R F m μ H) (r : RepL g.B F m ds vs) : ∀ p, H p = none → Q (.ref p) (upd H p (.tup vs)) := fun p hp => by
  obtain ⟨gr, so'⟩ := so.new (o := .tup vs) hp
  exact q _ m _ gr so' _ ⟨p, vs, rfl, .inl (.inl upd_same), RepL.mono gr _ _ r⟩

theorem pow_ok {X : Cx} {i j : Int} {H : Hp} {Q : VK} (hp : powOk i j = true) (q : Q (.int (i ^ j.toNat)) H) : SB X (binaryOp .Pow) (.int i) (.int j) H Q := fun pins s σ v u I rx ry => by
  obtain ⟨t, rfl⟩ := rx
  obtain ⟨t', rfl⟩ := ry
  obtain ⟨h1, h2⟩ := of_decide_eq_true hp
  exact PyProof.Rows.pow_int h1 h2 ⟨.int _, H, I.tok _, ⟨_, rfl⟩, q⟩

theorem divOk_of {j : Int} (h : divOk j = true) : 0 < j ∧ j.natAbs.log2 < 9000 := of_decide_eq_true h
theorem bin_ok (cx : CxOk g ct W X) : ∀ {op : Operator} {x y z : D} {v u : V}, binD op x y = some z → SOk g.B R F m μ H → Rep g.B F m x v → Rep g.B F m y u → Aft g R F m μ z Q → SB X (binaryOp op) v u H Q := by
  intro op x y z v u h so rx ry q
  unfold binD at h
  split at h
  · have h := Option.some.inj h
    have rx : v = _ := rx
    have ry : u = _ := ry
    subst h rx ry
    exact SB.of op_add ⟨_, _, rfl, rfl, q.here so rfl⟩
  · split at h
    · rename_i hl
      have h := Option.some.inj h
      have rx : v = _ := rx
      have ry : u = _ := ry
      subst h rx ry
      exact SB.of op_add_str ⟨_, _, rfl, rfl, hl, q.here so rfl⟩
    · cases h
  · split at h
    · rename_i hl
      have h := Option.some.inj h
      subst h
      obtain ⟨a, vs, rfl, ha, ra⟩ := rx
      obtain ⟨b, us, rfl, hb, rb⟩ := ry
      exact SB.of op_cat ⟨a, b, vs, us, rfl, rfl, so.sub _ _ ha, so.sub _ _ hb, by rw [← ra.length, ← rb.length]; exact hl, q.lst so (ra.append rb)⟩
    · cases h
  · have h := Option.some.inj h
    have rx : v = _ := rx
    have ry : u = _ := ry
    subst h rx ry
    exact SB.of op_sub ⟨_, _, rfl, rfl, q.here so rfl⟩
  · split at h
    · rename_i hl
      have h := Option.some.inj h
      have rx : v = _ := rx
      have ry : u = _ := ry
      subst h rx ry
      rcases of_decide_eq_true hl with hl | hl | hl
      · exact SB.of op_mul ⟨_, _, rfl, rfl, .inl hl, q.here so rfl⟩
      · exact SB.of op_mul ⟨_, _, rfl, rfl, .inr hl, q.here so rfl⟩
      · exact SB.of op_mulW ⟨_, _, rfl, rfl, hl, q.here so rfl⟩
    · cases h
  · split at h
    · rename_i hl
      have h := Option.some.inj h
      have ry : u = _ := ry
      subst h ry
      obtain ⟨a, vs, rfl, ha, ra⟩ := rx
      exact SB.of op_rep ⟨a, _, vs, rfl, rfl, so.sub _ _ ha, hl.1, hl.2.1, by rw [← ra.length]; exact hl.2.2, q.lst so (ra.times _)⟩
    · cases h
  · split at h
    · rename_i hl
      have h := Option.some.inj h
      have rx : v = _ := rx
      have ry : u = _ := ry
      subst h rx ry
      exact SB.of op_fdivW ⟨_, _, rfl, rfl, divOk_of hl, q.here so rfl⟩
    · cases h
  · split at h
    · rename_i hl
      have h := Option.some.inj h
      have rx : v = _ := rx
      have ry : u = _ := ry
      subst h rx ry
      exact SB.of op_mod ⟨_, _, rfl, rfl, hl, q.here so rfl⟩
    · cases h
  · split at h
    · rename_i hl
      have h := Option.some.inj h
      have rx : v = _ := rx
      have ry : u = _ := ry
      subst h rx ry
      exact pow_ok hl (q.here so rfl)
    · cases h
  · cases h

theorem eq_ok (cx : CxOk g ct W X) {x y : D} {k : Bool} {v u : V} (h : eqD x y = some k) (so : SOk g.B R F m μ H) (rx : Rep g.B F m x v) (ry : Rep g.B F m y u) :
    ∃ a b, Dp X.K H v a ∧ Dp X.K H u b ∧ SeqAt.shaped a = true ∧ SeqAt.shaped b = true ∧ PyData.eqv a b = k := by
  unfold eqD at h
  split at h
  · rename_i a b h1 h2
    split at h
    · rename_i hs
      rw [Bool.and_eq_true] at hs
      exact ⟨a, b, cx.K ▸ Rep.dp so.sub _ _ _ rx h1, cx.K ▸ Rep.dp so.sub _ _ _ ry h2, hs.1, hs.2, Option.some.inj h⟩
    · cases h
  · cases h

theorem cmp_ok (cx : CxOk g ct W X) : ∀ {op : CmpOp} {x y : D} {k : Bool} {v u : V}, cmpD op x y = some k → SOk g.B R F m μ H → Rep g.B F m x v → Rep g.B F m y u → Q (.bl k) H → SB X (compareOp op) v u H Q := by
  intro op x y k v u h so rx ry q
  unfold cmpD at h
  split at h
  · have h := Option.some.inj h
    have rx : v = _ := rx
    have ry : u = _ := ry
    subst h rx ry
    exact SB.of op_lt ⟨_, _, rfl, rfl, q⟩
  · have h := Option.some.inj h
    have rx : v = _ := rx
    have ry : u = _ := ry
    subst h rx ry
    exact SB.of op_le ⟨_, _, rfl, rfl, q⟩
  · have h := Option.some.inj h
    have rx : v = _ := rx
    have ry : u = _ := ry
    subst h rx ry
    exact SB.of op_gt ⟨_, _, rfl, rfl, q⟩
  · have h := Option.some.inj h
    have rx : v = _ := rx
    have ry : u = _ := ry
    subst h rx ry
    exact SB.of op_ge ⟨_, _, rfl, rfl, q⟩
  · have h := Option.some.inj h
    have rx : v = _ := rx
    have ry : u = _ := ry
    subst h rx ry
    exact SB.of op_le_str ⟨_, _, rfl, rfl, q⟩
  · rename_i a b
    have rx : v = _ := rx
    have ry : u = _ := ry
    subst rx ry
    cases e : sign? a with
    | none =>
      rw [e] at h
      cases h
    | some c =>
      rw [e] at h
      have h := Option.some.inj h
      subst h
      have ea : a = ⟨#[c]⟩ := by
        unfold sign? at e
        split at e
        · rename_i c' hc
          have e := Option.some.inj e
          subst e
          obtain ⟨⟨l⟩⟩ := a
          have hc : l = [c'] := hc
          subst hc
          rfl
        · cases e
      subst ea
      exact SB.of op_in_sign ⟨c, b, rfl, rfl, q⟩
  · obtain ⟨a, b, d1, d2, s1, s2, e⟩ := eq_ok cx h so rx ry
    subst e
    exact SB.of (op_eqD cx.room.units) ⟨a, b, d1, d2, s1, s2, q⟩
  · cases e : eqD x y with
    | none =>
      rw [e] at h
      cases h
    | some c =>
      rw [e] at h
      have h := Option.some.inj h
      subst h
      obtain ⟨a, b, d1, d2, s1, s2, e⟩ := eq_ok cx e so rx ry
      subst e
      exact SB.of (op_neD cx.room.units) ⟨a, b, d1, d2, s1, s2, q⟩
  · cases h

theorem RepL.emp {B : Bk} {F : Hp} {m : List Addr} : ∀ {ds : List D} {vs : List V}, RepL B F m ds vs → ds.isEmpty = vs.isEmpty
  | [], _, h => by
    have h : _ = [] := h
    rw [h]
    rfl
  | _ :: _, _, h => by
    obtain ⟨_, _, rfl, _⟩ := h
    rfl
theorem tru_ok (cx : CxOk g ct W X) (so : SOk g.B R F m μ H) {k : Bool} : ∀ {x : D} {v : V}, truD x = some k → Rep g.B F m x v → TruV X.K v H k
  | .non, v, h, rx => by
    have rx : v = _ := rx
    subst rx
    exact (Option.some.inj h).symm
  | .bl b, v, h, rx => by
    have rx : v = _ := rx
    subst rx
    exact (Option.some.inj h).symm
  | .int i, v, h, rx => by
    have rx : v = _ := rx
    subst rx
    exact (Option.some.inj h).symm
  | .str z, v, h, rx => by
    have rx : v = _ := rx
    subst rx
    have h : (if z.length ≤ sizeLine then some (z.length != 0) else none) = some k := h
    by_cases hl : z.length ≤ sizeLine
    · rw [if_pos hl] at h
      refine ⟨hl, ?_⟩
      have h := Option.some.inj h
      rw [← h]
      by_cases hz : z.length = 0
      · rw [hz]
        rfl
      · have e1 : (z.length != 0) = true := bne_iff_ne.mpr hz
        have e2 : ((z.length : Int) != 0) = true := bne_iff_ne.mpr (by omega)
        rw [e1, e2]
    · rw [if_neg hl] at h
      cases h
  | .tup xs, v, h, rx => by
    obtain ⟨a, vs, rfl, hs, r⟩ := rx
    refine .inr (.inl ⟨vs, cx.K ▸ seqT_mono so.sub hs, ?_⟩)
    have h : some (!xs.isEmpty) = some k := h
    have h := Option.some.inj h
    rw [← h, r.emp]
  | .lst xs, v, h, rx => by
    obtain ⟨a, vs, rfl, hs, r⟩ := rx
    refine .inl ⟨vs, SqL.of (so.sub _ _ hs), ?_⟩
    have h : some (!xs.isEmpty) = some k := h
    have h := Option.some.inj h
    rw [← h, r.emp]
  | .rol _, _, h, _ => by cases h
  | .dic _ _, _, h, _ => by cases h
  | .ins _ _, _, h, _ => by cases h
  | .ref _, _, h, _ => by cases h

/-- a list, as it may be read -/
theorem seq_ok (cx : CxOk g ct W X) {x : D} {v : V} {xs : List D} (h : seqL μ x = some xs) (so : SOk g.B R F m μ H) (rx : Rep g.B F m x v) :
    ∃ a vs, v = .ref a ∧ SqL X.K H a vs ∧ RepL g.B F m xs vs := by
  unfold seqL at h
  split at h
  · have h := Option.some.inj h
    subst h
    obtain ⟨a, vs, rfl, hs, r⟩ := rx
    exact ⟨a, vs, rfl, SqL.of (so.sub _ _ hs), r⟩
  · have h := Option.some.inj h
    subst h
    obtain ⟨a, vs, rfl, hs, r⟩ := rx
    exact ⟨a, vs, rfl, cx.K ▸ so.sub.seq hs, r⟩
  · obtain ⟨a, ea, rfl⟩ := rx
    split at h
    · rename_i hk
      have h := Option.some.inj h
      subst h
      obtain ⟨b, eb, _, vs, hv, r⟩ := so.cell _ _ hk
      rw [ea] at eb
      cases eb
      exact ⟨a, vs, rfl, SqL.of hv, r⟩
    · rename_i hk
      have h := Option.some.inj h
      subst h
      obtain ⟨b, eb, _, vs, hv, r⟩ := so.cell _ _ hk
      rw [ea] at eb
      cases eb
      exact ⟨a, vs, rfl, SqL.of hv, r⟩
    · rename_i hk
      have h := Option.some.inj h
      subst h
      obtain ⟨b, eb, r, _⟩ := so.cell _ _ hk
      rw [ea] at eb
      cases eb
      obtain ⟨a', vs, e, hs, r⟩ := r
      cases e
      exact ⟨a, vs, rfl, SqL.of (so.sub _ _ hs), r⟩
    · cases h
  · cases h

/-- a subscript by values -/
def SX (X : Cx) : R2 := fun x y H Q => ∀ (value slice : Expr) (pins : List (Addr × Obj)) (s : Shared) (σ : St) (v u : Value), L2.Inv X pins σ H s → RelV x v → RelV y u →
  subscripted slice false v u = operate [v, u] (getItem v u) → wpAny (model X.prog X.w) X.A (PyProof.Rows.subscriptTail value slice v u) (EP X pins σ Q) X.xe s
theorem ix_sx (X : Cx) : IxR X (SX X) := fun value slice pins s σ H x y v u Q I rx ry h hs => h value slice pins s σ v u I rx ry hs
theorem SX.of {X : Cx} {r : R2} {x y : V} {H : Hp} {Q : VK} (h : IxR X r) (q : r x y H Q) : SX X x y H Q := fun value slice pins s σ v u I rx ry hs => h value slice pins s σ H x y v u Q I rx ry q hs
theorem sub_ok (cx : CxOk g ct W X) {o i z : D} {v u : V} (h : subD μ o i = some z) (so : SOk g.B R F m μ H) (ro : Rep g.B F m o v) (ri : Rep g.B F m i u) (q : ∀ w, Rep g.B F m z w → Q w H) : SX X v u H Q := by
  unfold subD at h
  split at h
  · rename_i n
    have ri : u = .int n := ri
    subst ri
    split at h
    · rename_i zz
      have ro : v = .str zz := ro
      subst ro
      split at h
      · rename_i hl
        cases e : atI zz.cps.toList n with
        | none =>
          rw [e] at h
          cases h
        | some c =>
          rw [e] at h
          have h := Option.some.inj h
          subst h
          exact SX.of ix_str ⟨zz, n, c, rfl, rfl, hl, e, q _ rfl⟩
      · cases h
    · obtain ⟨a, vs, rfl, hs, r⟩ := ro
      obtain ⟨w, h1, h2⟩ := r.atI h
      exact SX.of ix_tup ⟨a, vs, n, w, rfl, rfl, cx.K ▸ seqT_mono so.sub hs, h1, q w h2⟩
    · cases e : seqL μ o with
      | none =>
        rw [e] at h
        cases h
      | some xs =>
        rw [e] at h
        obtain ⟨a, vs, rfl, hs, r⟩ := seq_ok cx e so ro
        obtain ⟨w, h1, h2⟩ := r.atI (show atI xs n = some z from h)
        exact SX.of ix_list ⟨a, vs, n, w, rfl, rfl, hs, h1, q w h2⟩
  · cases h
end
end Sg
/-! Sg5: built-in functions, methods, calls of defs; an expression that passes the checker does what the evaluator says. -/
namespace Sg
open PySem L2

section
variable {g : Gx} {ct : CT} {W : WX} {X : Cx} {R F : Hp} {m : List Addr} {μ : Store} {H : Hp} {Q : VK}

def Blt.val : Blt → Value
  | .len => .builtin "len"
  | .abs => .builtin "abs"
  | .int => .type "int"
  | .max2 => .builtin "max"
  | .min2 => .builtin "min"
  | .all => .builtin "all"
  | .repr => .builtin "repr"
theorem Blt.boot (b : Blt) : bootBuiltins b.nm = some b.val := by cases b <;> decide +kernel
theorem Blt.mem (b : Blt) : b.nm ∈ bltNames := by cases b <;> decide +kernel
theorem Blt.nn (b : Blt) : b.nm ≠ "__name__" := by cases b <;> decide +kernel

theorem blt_ok (cx : CxOk g ct W X) : ∀ {b : Blt} {ds : List D} {z : D} {vs : List V}, bltD μ b ds = some z → SOk g.B R F m μ H → RepL g.B F m ds vs → Aft g R F m μ z Q → SC X b.val vs H Q := by
  intro b ds z vs h so r q
  unfold bltD at h
  split at h
  · split at h
    · rename_i hl
      have h := Option.some.inj h
      subst h
      obtain ⟨v, us, rfl, r1, r2⟩ := r
      have r1 : v = _ := r1
      have r2 : us = _ := r2
      subst r1 r2
      exact SC.of call_len ⟨_, _, rfl, ⟨hl, rfl⟩, q.here so rfl⟩
    · cases h
  · have h := Option.some.inj h
    subst h
    obtain ⟨v, us, rfl, r1, r2⟩ := r
    have r2 : us = _ := r2
    subst r2
    obtain ⟨a, ws, rfl, hs, r⟩ := r1
    exact SC.of call_len ⟨_, _, rfl, .inr ⟨ws, cx.K ▸ seqT_mono so.sub hs, rfl⟩, q.here so (by rw [r.length]; exact rfl)⟩
  · rename_i o _ _
    obtain ⟨v, us, rfl, r1, r2⟩ := r
    have r2 : us = _ := r2
    subst r2
    cases e : seqL μ o with
    | none =>
      rw [e] at h
      cases h
    | some xs =>
      rw [e] at h
      have h := Option.some.inj h
      subst h
      obtain ⟨a, ws, rfl, hs, r⟩ := seq_ok cx e so r1
      exact SC.of call_len ⟨_, _, rfl, .inl ⟨ws, hs, rfl⟩, q.here so (by show V.int _ = V.int _; rw [r.length])⟩
  · have h := Option.some.inj h
    subst h
    obtain ⟨v, us, rfl, r1, r2⟩ := r
    have r1 : v = _ := r1
    have r2 : us = _ := r2
    subst r1 r2
    exact SC.of call_abs ⟨_, rfl, q.here so rfl⟩
  · have h := Option.some.inj h
    subst h
    obtain ⟨v, us, rfl, r1, r2⟩ := r
    have r1 : v = _ := r1
    have r2 : us = _ := r2
    subst r1 r2
    exact SC.of call_int1 (.inl ⟨_, rfl, q.here so rfl⟩)
  · have h := Option.some.inj h
    subst h
    obtain ⟨v, us, rfl, r1, r2⟩ := r
    have r1 : v = _ := r1
    have r2 : us = _ := r2
    subst r1 r2
    exact SC.of call_int1 (.inr ⟨_, rfl, q.here so rfl⟩)
  · have h := Option.some.inj h
    subst h
    obtain ⟨v, us, rfl, r1, w, us', rfl, r3, r2⟩ := r
    have r1 : v = _ := r1
    have r3 : w = _ := r3
    have r2 : us' = _ := r2
    subst r1 r2 r3
    exact SC.of (call_max2 cx.calm) ⟨_, _, rfl, q.here so rfl⟩
  · have h := Option.some.inj h
    subst h
    obtain ⟨v, us, rfl, r1, w, us', rfl, r3, r2⟩ := r
    have r1 : v = _ := r1
    have r3 : w = _ := r3
    have r2 : us' = _ := r2
    subst r1 r2 r3
    exact SC.of (call_min2 cx.calm) ⟨_, _, rfl, q.here so rfl⟩
  · rename_i xs
    obtain ⟨v, us, rfl, r1, r2⟩ := r
    have r2 : us = _ := r2
    subst r2
    cases e : bls? xs with
    | none =>
      rw [e] at h
      cases h
    | some bs =>
      rw [e] at h
      have h := Option.some.inj h
      subst h
      obtain ⟨a, ws, rfl, hs, r⟩ := r1
      have ew := r.bls e
      subst ew
      exact SC.of (cr_all cx.calm) ⟨a, bs, rfl, SqL.of (so.sub _ _ hs), q.here so rfl⟩
  · have h := Option.some.inj h
    subst h
    obtain ⟨v, us, rfl, r1, r2⟩ := r
    have r1 : v = _ := r1
    have r2 : us = _ := r2
    subst r1 r2
    intro pins s σ us I rv
    cases rv with
    | cons r1 r2 =>
      cases r2
      cases r1
      exact PySem.P.repr_of_bool ⟨.str _, H, I.tok _, ⟨_, rfl⟩, q.here so rfl⟩
  · cases h

theorem ty_ok (cx : CxOk g ct W X) (so : SOk g.B R F m μ H) : ∀ {x : D} {v : V} {t : String}, tyD x = some (.ty t) → Rep g.B F m x v → TyX X.K H v (.type t)
  | .non, v, t, h, r => by
    have r : v = _ := r
    have h := Ty.ty.inj (Option.some.inj h)
    subst r h
    exact .base .non
  | .bl b, v, t, h, r => by
    have r : v = _ := r
    have h := Ty.ty.inj (Option.some.inj h)
    subst r h
    exact .base (.bl b)
  | .int i, v, t, h, r => by
    have r : v = _ := r
    have h := Ty.ty.inj (Option.some.inj h)
    subst r h
    exact .base (.int i)
  | .str x, v, t, h, r => by
    have r : v = _ := r
    have h := Ty.ty.inj (Option.some.inj h)
    subst r h
    exact .base (.str x)
  | .tup xs, v, t, h, r => by
    have h := Ty.ty.inj (Option.some.inj h)
    subst h
    obtain ⟨a, vs, rfl, hs, _⟩ := r
    have hs := seqT_mono so.sub hs
    rcases hs with (hs | ⟨o, hs⟩) | ⟨o, its, n, hk, hc, _⟩
    · exact .base (.tup hs)
    · exact .fTuple hs
    · exact .kTuple (cx.K ▸ hk) hc
  | .lst xs, v, t, h, r => by
    have h := Ty.ty.inj (Option.some.inj h)
    subst h
    obtain ⟨a, vs, rfl, hs, _⟩ := r
    exact .base (.lst (so.sub _ _ hs))
  | .dic ks xs, v, t, h, r => by
    have h := Ty.ty.inj (Option.some.inj h)
    subst h
    obtain ⟨a, vs, rfl, hs, _⟩ := r
    exact .base (.dK (so.sub _ _ hs))
  | .ins _ _, _, _, h, _ => by cases h
  | .ref _, _, _, h, _ => by cases h
  | .rol _, _, _, h, _ => by cases h
theorem tyD_mem : ∀ {x : D} {t : String}, tyD x = some (.ty t) → t ∈ ["NoneType", "bool", "int", "str", "tuple", "list", "dict"]
  | .non, _, h => by rw [← Ty.ty.inj (Option.some.inj h)]; decide
  | .bl b, _, h => by rw [← Ty.ty.inj (Option.some.inj h)]; decide
  | .int i, _, h => by rw [← Ty.ty.inj (Option.some.inj h)]; decide
  | .str x, _, h => by rw [← Ty.ty.inj (Option.some.inj h)]; decide
  | .tup xs, _, h => by rw [← Ty.ty.inj (Option.some.inj h)]; decide
  | .lst xs, _, h => by rw [← Ty.ty.inj (Option.some.inj h)]; decide
  | .dic ks xs, _, h => by rw [← Ty.ty.inj (Option.some.inj h)]; decide
  | .ins _ _, _, h => by cases h
  | .ref _, _, h => by cases h
  | .rol _, _, h => by cases h
theorem kit_all : ∀ a ∈ ["NoneType", "bool", "int", "str", "tuple", "list", "dict"], ∀ b ∈ ["int", "str", "tuple", "list", "dict", "bool"],
    kitB a b = some (decide (a = b) || (decide (a = "bool") && decide (b = "int"))) := by decide +kernel
theorem isi_ok (cx : CxOk g ct W X) {x : D} {n : String} {k : Bool} {v : V} (h : isiD x (.ty n) = some k) (so : SOk g.B R F m μ H) (r : Rep g.B F m x v) (q : Q (.bl k) H) : SC X (.builtin "isinstance") [v, .ty n] H Q := by
  unfold isiD at h
  split at h
  · rename_i a b hd hb
    cases hb
    split at h
    · rename_i hm
      have h := Option.some.inj h
      subst h
      exact SC.of call_isi ⟨v, .ty n, .type a, .type n, _, rfl, .ty n, ty_ok cx so hd r, kit_ty (kit_all a (tyD_mem hd) n hm), q⟩
    · cases h
  · cases h

/-! ### methods -/
def Mth.id : Mth → String
  | .join => "str.join"
  | .upper => "str.upper"
def Mth.of : Mth → String
  | .join => "str"
  | .upper => "str"
/-- a method by values -/
def SM (X : Cx) (id : String) : V → List V → Hp → VK → Prop := fun x xs H Q => ∀ (pins : List (Addr × Obj)) (s : Shared) (σ : St) (v : Value) (us : List Value), L2.Inv X pins σ H s → RelV x v → Vals xs us →
  wpAny (model X.prog X.w) X.A (call (.builtin id) (v :: us)) (EP X pins σ Q) X.xe s
theorem mt_sm (X : Cx) (id : String) : MtR X id (SM X id) := fun pins s σ H x xs v us Q I rx rv h => h pins s σ v us I rx rv
theorem SM.of {X : Cx} {id : String} {r : V → List V → Hp → VK → Prop} {x : V} {xs : List V} {H : Hp} {Q : VK} (h : MtR X id r) (q : r x xs H Q) : SM X id x xs H Q := fun pins s σ v us I rx rv => h pins s σ H x xs v us Q I rx rv q
theorem mth_ty (cx : CxOk g ct W X) {mt : Mth} {o : D} {v : V} (h : mthTy mt o = true) (so : SOk g.B R F m μ H) (r : Rep g.B F m o v) : tyV X.K mt.of v H := by
  unfold mthTy at h
  split at h
  · have r : v = _ := r
    subst r
    exact rfl
  · have r : v = _ := r
    subst r
    exact rfl
  · cases h
theorem mth_ok (cx : CxOk g ct W X) {mt : Mth} {o : D} {ds : List D} {z : D} {v : V} {vs : List V} (h : mthD mt o ds = some z) (so : SOk g.B R F m μ H) (ro : Rep g.B F m o v) (r : RepL g.B F m ds vs) (q : Aft g R F m μ z Q) : SM X mt.id v vs H Q := by
  unfold mthD at h
  split at h
  · rename_i a xs
    have ro : v = _ := ro
    subst ro
    obtain ⟨v, us, rfl, r1, r2⟩ := r
    have r2 : us = _ := r2
    subst r2
    obtain ⟨p, ws, rfl, hs, r⟩ := r1
    cases e : strs? xs with
    | none =>
      rw [e] at h
      cases h
    | some ys =>
      rw [e] at h
      have h : (if (ys.map (·.length)).sum + ys.length * a.length ≤ 16777216 then some (D.str (Txt.join a ys)) else none) = some z := h
      split at h
      · rename_i hl
        have h := Option.some.inj h
        subst h
        have ew := r.strs e
        subst ew
        exact SM.of mt_join ⟨a, p, ys, rfl, rfl, .inl (SqL.of (so.sub _ _ hs)), hl, q.here so rfl⟩
      · cases h
  · have ro : v = _ := ro
    have r : vs = [] := r
    subst ro r
    split at h
    · rename_i hl
      have h := Option.some.inj h
      subst h
      exact SM.of mt_upper ⟨_, rfl, rfl, hl, q.here so rfl⟩
    · cases h
  · cases h
theorem Mth.plain (mt : Mth) : PlainAttrs mt.of := by
  cases mt
  · exact PySem.F.plainAttrs_str
  · exact PySem.F.plainAttrs_str
theorem Mth.slot (mt : Mth) : Slot mt.of mt.nm mt.id := by
  cases mt
  · exact PySem.F.slot_str_join
  · exact PySem.F.slot_str_upper
theorem Mth.typ (mt : Mth) : typeOf (.builtin mt.id) = pure (.type "method_descriptor") := by
  cases mt
  · exact PySem.F.type_str_join
  · exact PySem.F.type_str_upper

/-! ### slices -/
def SZ (X : Cx) : V → Option Int → Option Int → Hp → VK → Prop := fun x lo hi H Q => ∀ (pins : List (Addr × Obj)) (s : Shared) (σ : St) (v vl vu : Value) (sl : Addr), L2.Inv X pins σ H s → RelV x v → s.heap.IsSliceOf sl vl vu Value.none → IsPart vl lo → IsPart vu hi →
  ∃ T id, typeLookup (Value.type T) (Str.ofString "__getitem__") = pure (some (Value.builtin id)) ∧ s.TypeIs v T ∧ wpAny (model X.prog X.w) X.A (getItem v (Value.ref sl)) (EP X pins σ Q) X.xe s
theorem sl_sz (X : Cx) : SlR X (SZ X) := fun pins s σ H x v vl vu lo hi sl Q I rx h1 h2 h3 h => h pins s σ v vl vu sl I rx h1 h2 h3
theorem SZ.of {X : Cx} {r : V → Option Int → Option Int → Hp → VK → Prop} {x : V} {lo hi : Option Int} {H : Hp} {Q : VK} (h : SlR X r) (q : r x lo hi H Q) : SZ X x lo hi H Q := fun pins s σ v vl vu sl I rx h1 h2 h3 => h pins s σ H x v vl vu lo hi sl Q I rx h1 h2 h3 q
theorem slc_ok (cx : CxOk g ct W X) {o z : D} {v : V} {lo hi : Option Int} (h : slcD o lo hi = some z) (so : SOk g.B R F m μ H) (ro : Rep g.B F m o v) (q : Aft g R F m μ z Q) : SZ X v lo hi H Q := by
  unfold slcD at h
  split at h
  · have ro : v = _ := ro
    subst ro
    split at h
    · rename_i hl
      have h := Option.some.inj h
      subst h
      exact SZ.of sl_str ⟨_, rfl, hl, q.here so rfl⟩
    · cases h
  · have h := Option.some.inj h
    subst h
    obtain ⟨a, vs, rfl, hs, r⟩ := ro
    exact SZ.of sl_list ⟨a, vs, rfl, SqL.of (so.sub _ _ hs), q.lst so (r.cutD lo hi)⟩
  · cases h

/-! ### a def is called -/
theorem fn_run (cx : CxOk g ct W X) {f : Addr} {fd : FuncData} {ps : List Str} {t : List D → M D} (F0 : FnG g.gd g.P g.w g.B.K g.mg g.base g.lv f fd ps (Prm g.B t)) (hb : Binds g.B.K fd ps [])
    {ds : List D} {vs : List V} {σ : St} {r : Except Exc D × Store} (h : t ds μ = some r) (so : SOk g.B R F m μ H) (rv : RepL g.B F m ds vs)
    (q : Post g.B R W σ F m r (fun F' m' H' d => ∀ v, Rep g.B F' m' d v → Q v H')) :
    ∀ (pins : List (Addr × Obj)) (s : Shared) (us : List Value), L2.Inv X pins σ H s → Vals vs us → wpAny (model X.prog X.w) X.A (call (.ref f) us) (EP X pins σ Q) X.xe s := by
  intro pins s us I r2
  have F1 : FnG g.gd X.prog X.w X.K X.mg X.base g.lv f fd ps (Prm g.B t) := by
    rw [cx.prog, cx.w, cx.K, cx.mg, cx.base]
    exact F0
  have hb1 : Binds X.K fd ps [] := by
    rw [cx.K]
    exact hb
  have hp : Prm g.B t vs H Q (fun cls dx H' => W cls dx σ H') := by
    refine ⟨R, F, m, μ, ds, r, so, rv, h, ?_⟩
    obtain ⟨r1, r2⟩ := r
    cases r1 with
    | ok a => exact q
    | error x => exact q
  have hl : (us ++ []).length = ps.length := by
    rw [List.append_nil, ← r2.length]
    exact F1.len _ _ _ _ hp
  have bnd := hb1 s us I.kIn hl
  rw [List.append_nil] at bnd
  refine wpAny_call (codeAny_mono (F1.run X.A X.stack s H ⟨us, []⟩ us vs Q _ cx.room cx.gu I.env0 bnd r2 hp) fun r s' hq => ?_)
  cases r with
  | error e => exact cx.tk _ _ (XE.of_call I (fun _ _ _ h => h) hq)
  | ok fl =>
    cases fl with
    | ret u => exact I.after hq
    | next => exact False.elim hq
    | brk => exact False.elim hq
    | cont => exact False.elim hq
end
end Sg
/-! Sg6: an expression that passes the checker does what the evaluator says. -/
namespace Sg
open PySem L2

abbrev QE (g : Gx) (Q : VK) : Hp → List Addr → Hp → D → Prop := fun F' m' H' d => ∀ v, Rep g.B F' m' d v → Q v H'
def JE (g : Gx) (W : WX) (X : Cx) (e : Expr) (f : Rho → M D) : Prop := ∀ ρ μ r, f ρ μ = some r → ∀ R F m σ H Q, SOk g.B R F m μ H → ROk g.B F m ρ σ → Post g.B R W σ F m r (QE g Q) → SE X e σ H Q
def JT (g : Gx) (W : WX) (X : Cx) (e : Expr) (f : Rho → M Bool) : Prop := ∀ ρ μ r, f ρ μ = some r → ∀ R F m σ H (Q : Bool → Hp → Prop), SOk g.B R F m μ H → ROk g.B F m ρ σ → Post g.B R W σ F m r (fun _ _ H' b => Q b H') → ST X e σ H Q
def JA (g : Gx) (W : WX) (X : Cx) (es : List Expr) (f : Rho → M (List D)) : Prop := ∀ ρ μ r, f ρ μ = some r → ∀ R F m σ H (Q : List V → Hp → Prop), SOk g.B R F m μ H → ROk g.B F m ρ σ →
  Post g.B R W σ F m r (fun F' m' H' ds => ∀ vs, RepL g.B F' m' ds vs → Q vs H') → SA X es σ H Q
def JO (g : Gx) (W : WX) (X : Cx) (e : Option Expr) (f : Rho → M (Option Int)) : Prop := ∀ ρ μ r, f ρ μ = some r → ∀ R F m σ H (Q : Option Int → Hp → Prop), SOk g.B R F m μ H → ROk g.B F m ρ σ → Post g.B R W σ F m r (fun _ _ H' o => Q o H') → SO X e σ H Q
def STs (X : Cx) (ifs : List Expr) : TT := fun σ H Q => ∀ (pins : List (Addr × Obj)) (s : Shared), L2.Inv X pins σ H s →
  wpAny (model X.prog X.w) X.A (forIn ifs true fun c r => if r = true then do
    let ok ← isTrue c X.env (eval c X.env)
    pure (ForInStep.yield ok) else pure (ForInStep.yield r)) (TP X pins σ Q) X.xe s
theorem pts_sts (X : Cx) (ifs : List Expr) : PTs X ifs (STs X ifs) := ⟨fun pins s σ H Q I h => h pins s I⟩
def JTs (g : Gx) (W : WX) (X : Cx) (ifs : List Expr) (f : Rho → M Bool) : Prop := ∀ ρ μ r, f ρ μ = some r → ∀ R F m σ H (Q : Bool → Hp → Prop), SOk g.B R F m μ H → ROk g.B F m ρ σ → Post g.B R W σ F m r (fun _ _ H' b => Q b H') → STs X ifs σ H Q

/-! ### walks -/
def SI (X : Cx) (tg iter : Expr) : TI := fun σ H R => ∀ (pins : List (Addr × Obj)) (s : Shared), L2.Inv X pins σ H s →
  wpAny (model X.prog X.w) X.A (eval iter X.env) (fun v s1 => wpAny (model X.prog X.w) X.A (pyIter v) (PIE X pins σ tg R) X.xe s1) X.xe s
theorem pi_si (X : Cx) (tg iter : Expr) : PI X tg iter (SI X tg iter) := ⟨fun pins s σ H R I h => h pins s I⟩
theorem SI.of {X : Cx} {tg iter : Expr} {t : TI} {σ : St} {H : Hp} {R : It → Hp → Prop} (h : PI X tg iter t) (q : t σ H R) : SI X tg iter σ H R := fun pins s I => h.run pins s σ H R I q
/-- the walk gives ds, one after the other, while F stands -/
def WalkD (B : Bk) (F : Hp) (m : List Addr) (J : It) (ds : List D) : Prop := Walk J ds.length (fun H => Same F H) (fun i H x H' => ∃ d, ds[i]? = some d ∧
  ∀ R F1 m1 μ, Grow F m F1 m1 → SOk B R F1 m1 μ H → ∃ F2, Grow F1 m1 F2 m1 ∧ SOk B R F2 m1 μ H' ∧ Rep B F2 m1 d x)
def JI (g : Gx) (W : WX) (X : Cx) (iter : Expr) (f : Rho → M (List D)) : Prop := ∀ tg ρ μ r, f ρ μ = some r → ∀ R F m σ H (G : It → Hp → Prop), SOk g.B R F m μ H → ROk g.B F m ρ σ →
  Post g.B R W σ F m r (fun F' m' H' ds => ∀ J, WalkD g.B F' m' J ds → G J H') → SI X tg iter σ H G
def SG (X : Cx) (tg : Expr) : TG := fun v σ H Q => ∀ (pins : List (Addr × Obj)) (s : Shared) (u : Value), L2.Inv X pins σ H s → RelV v u →
  wpAny (model X.prog X.w) X.A (assign tg X.env u) (fun _ s' => ∃ σ' H', L2.Inv X pins σ' H' s' ∧ Q σ' H') X.xe s
theorem pg_sg (X : Cx) (tg : Expr) : PG X tg (SG X tg) := ⟨fun pins s σ H v u Q I r h => h pins s u I r⟩
theorem SG.of {X : Cx} {tg : Expr} {t : TG} {v : V} {σ : St} {H : Hp} {Q : St → Hp → Prop} (h : PG X tg t) (q : t v σ H Q) : SG X tg v σ H Q := fun pins s u I r => h.run pins s σ H v u Q I r q
def SGs (X : Cx) (ts : List Expr) : TGs := fun vs σ H Q => ∀ (pins : List (Addr × Obj)) (s : Shared) (us : List Value), L2.Inv X pins σ H s → Vals vs us →
  wpAny (model X.prog X.w) X.A (assignInOrder ((assignEach ts X.env).map (·.2)) us) (fun _ s' => ∃ σ' H', L2.Inv X pins σ' H' s' ∧ Q σ' H') X.xe s
theorem pgs_sgs (X : Cx) (ts : List Expr) : PGs X ts (SGs X ts) := ⟨fun pins s σ H vs us Q I r h => h pins s us I r⟩
theorem SGs.of {X : Cx} {ts : List Expr} {t : TGs} {vs : List V} {σ : St} {H : Hp} {Q : St → Hp → Prop} (h : PGs X ts t) (q : t vs σ H Q) : SGs X ts vs σ H Q := fun pins s us I r => h.run pins s σ H vs us Q I r q

/-! ### the text's small facts -/
theorem asg_cons {e : Expr} (h : notStar e = true) (es : List Expr) (env : Env) : assignEach (e :: es) env = (false, assign e env) :: assignEach es env := by
  cases e <;> first | rfl | cases h
theorem star_cons {e : Expr} (h : notStar e = true) (es : List Expr) (env : Env) : starEach (e :: es) env = (false, eval e env) :: starEach es env := by
  cases e <;> first | rfl | cases h
theorem star_none {ct : CT} {pos : Pos} {env : Env} : ∀ {es : List E} {xs : List Expr}, chkL ct es xs = true → ((backTo pos (starEach xs env)).any fun x => x.fst) = false
  | [], [], _ => rfl
  | [], _ :: _, h => by cases h
  | _ :: _, [], h => by cases h
  | e :: es, x :: r, h => by
    have h : (notStar x && chkE ct e x && chkL ct es r) = true := h
    simp only [Bool.and_eq_true] at h
    rw [star_cons h.1.1]
    show (false || (backTo pos (starEach r env)).any fun x => x.fst) = false
    rw [star_none h.2]
    rfl
theorem star_all {ct : CT} {pos : Pos} {env : Env} : ∀ {es : List E} {xs : List Expr}, chkL ct es xs = true → ((backTo pos (starEach xs env)).all fun x => !x.fst) = true
  | [], [], _ => rfl
  | [], _ :: _, h => by cases h
  | _ :: _, [], h => by cases h
  | e :: es, x :: r, h => by
    have h : (notStar x && chkE ct e x && chkL ct es r) = true := h
    simp only [Bool.and_eq_true] at h
    rw [star_cons h.1.1]
    show (!false && (backTo pos (starEach r env)).all fun x => !x.fst) = true
    rw [star_all h.2]
    rfl
theorem asg_len {ct : CT} {env : Env} : ∀ {ts : List Tg} {es : List Expr}, chkTgs ct ts es = true → (assignEach es env).length = ts.length ∧ (assignEach es env).findIdx? (·.1) = none
  | [], [], _ => ⟨rfl, rfl⟩
  | [], _ :: _, h => by cases h
  | _ :: _, [], h => by cases h
  | t :: ts, e :: r, h => by
    have h : (notStar e && chkTg ct t e && chkTgs ct ts r) = true := h
    simp only [Bool.and_eq_true] at h
    obtain ⟨q1, q2⟩ := asg_len (env := env) h.2
    rw [asg_cons h.1.1]
    refine ⟨by rw [List.length_cons, q1]; rfl, ?_⟩
    rw [List.findIdx?_cons]
    show Option.map _ ((assignEach r env).findIdx? (·.1)) = none
    rw [q2]
    rfl
theorem wipe_get {σ : St} : ∀ {vs : List Nat} {j : Nat}, (L2.wipe σ vs)[j]? = if j ∈ vs then (σ[j]?).map (fun _ => none) else σ[j]?
  | [], j => by simp [L2.wipe]
  | v :: vs, j => by
    unfold L2.wipe
    rw [List.getElem?_set, wipe_get (vs := vs), L2.wipe_length]
    by_cases hv : v = j
    · subst hv
      by_cases hl : v < σ.length
      · simp [hl]
      · simp [hl]
    · have hj : ¬ j = v := fun e => hv e.symm
      simp [hv, hj]
theorem wipe_set {σ : St} {i : Nat} {x : Option V} {vs : List Nat} (h : i ∈ vs) : L2.wipe (σ.set i x) vs = L2.wipe σ vs := by
  apply List.ext_getElem?
  intro j
  rw [wipe_get, wipe_get]
  by_cases hj : j ∈ vs
  · rw [if_pos hj, if_pos hj, List.getElem?_set]
    by_cases hi : i = j
    · subst hi
      by_cases hl : i < σ.length
      · simp [hl]
      · simp [hl]
    · simp [hi]
  · have hi : i ≠ j := fun e => hj (e ▸ h)
    rw [if_neg hj, if_neg hj, List.getElem?_set_ne hi]

/-! ### targets -/
theorem bindTs_len : ∀ (ts : List Tg) (ds : List D) (ρ ρ' : Rho), bindTs ts ds ρ = some ρ' → ts.length = ds.length
  | [], [], _, _, _ => rfl
  | [], _ :: _, _, _, h => by cases h
  | _ :: _, [], _, _, h => by cases h
  | t :: ts, d :: ds, ρ, ρ', h => by
    have h : (match bindT t d ρ with
      | some ρ' => bindTs ts ds ρ'
      | none => none) = some ρ' := h
    cases e : bindT t d ρ with
    | none =>
      rw [e] at h
      cases h
    | some ρ1 =>
      rw [e] at h
      rw [List.length_cons, List.length_cons, bindTs_len ts ds ρ1 ρ' h]
section
variable {g : Gx} {ct : CT} {W : WX} {X : Cx}
mutual
theorem tg_ok (cx : CxOk g ct W X) : ∀ (tg : Tg) (e : Expr), chkTg ct tg e = true → ∀ d ρ ρ', bindT tg d ρ = some ρ' → ∀ R F m μ σ H v (Q : St → Hp → Prop), SOk g.B R F m μ H → ROk g.B F m ρ σ → Rep g.B F m d v →
    (∀ σ', ROk g.B F m ρ' σ' → (∀ vs : List Nat, (∀ i ∈ tg.slots, i ∈ vs) → L2.wipe σ' vs = L2.wipe σ vs) → Q σ' H) → SG X e v σ H Q
  | .name i, e, h, d, ρ, ρ', hb, R, F, m, μ, σ, H, v, Q, so, ro, rv, q => by
    simp only [chkTg] at h
    split at h
    · rename_i x pos
      rw [Bool.and_eq_true] at h
      obtain ⟨h1, h2⟩ := h
      have h1 : ct.N[i]? = some x := of_decide_eq_true h1
      have hb : some (ρ.set i (some d)) = some ρ' := hb
      have hb := Option.some.inj hb
      subst hb
      have hloc : L2.Loc X.env.scope x ∧ (X.fn x = true ∨ X.env.scope.names.lookup x = some .local) := by
        rw [cx.sc]
        unfold L2.Loc
        split at h2
        · rename_i hl
          exact ⟨.inl hl, .inr hl⟩
        · rename_i hl
          exact ⟨.inr hl, .inl (cx.fn x h2)⟩
        · cases h2
      refine SG.of (pg_name (i := i) (by rw [cx.N]; exact cx.nd) (by rw [cx.N]; exact h1) hloc.1 hloc.2) ?_
      exact q _ (ro.set i rv) fun vs hs => wipe_set (hs i (List.mem_singleton.mpr rfl))
    · cases h
  | .tup ts, e, h, d, ρ, ρ', hb, R, F, m, μ, σ, H, v, Q, so, ro, rv, q => by
    simp only [chkTg] at h
    split at h
    · rename_i es k pos
      cases d with
      | tup ds =>
        have hb : bindTs ts ds ρ = some ρ' := hb
        obtain ⟨a, vs, rfl, hs, r⟩ := rv
        obtain ⟨l1, l2⟩ := asg_len (env := X.env) h
        refine SG.of (pg_tup cx.calm (pgs_sgs X es) l1 l2) ?_
        have hlen : ts.length = ds.length := bindTs_len ts ds ρ ρ' hb
        refine ⟨a, vs, rfl, cx.K ▸ seqT_mono so.sub hs, by rw [← r.length, hlen], ?_⟩
        exact tgs_ok cx ts es h ds ρ ρ' hb R F m μ σ H vs Q so ro r q
      | _ => cases hb
    · cases h
theorem tgs_ok (cx : CxOk g ct W X) : ∀ (ts : List Tg) (es : List Expr), chkTgs ct ts es = true → ∀ ds ρ ρ', bindTs ts ds ρ = some ρ' → ∀ R F m μ σ H vs (Q : St → Hp → Prop), SOk g.B R F m μ H → ROk g.B F m ρ σ → RepL g.B F m ds vs →
    (∀ σ', ROk g.B F m ρ' σ' → (∀ vs : List Nat, (∀ i ∈ Tg.slotsL ts, i ∈ vs) → L2.wipe σ' vs = L2.wipe σ vs) → Q σ' H) → SGs X es vs σ H Q
  | [], es, h, ds, ρ, ρ', hb, R, F, m, μ, σ, H, vs, Q, so, ro, rv, q => by
    cases es with
    | nil =>
      cases ds with
      | nil =>
        have hb : some ρ = some ρ' := hb
        have hb := Option.some.inj hb
        subst hb
        have rv : vs = [] := rv
        subst rv
        exact SGs.of pgs_nil ⟨rfl, q σ ro fun _ _ => rfl⟩
      | cons _ _ => cases hb
    | cons _ _ => cases h
  | t :: ts, es, h, ds, ρ, ρ', hb, R, F, m, μ, σ, H, vs, Q, so, ro, rv, q => by
    cases es with
    | nil => cases h
    | cons e r =>
      have h : (notStar e && chkTg ct t e && chkTgs ct ts r) = true := h
      simp only [Bool.and_eq_true] at h
      cases ds with
      | nil => cases hb
      | cons d ds =>
        obtain ⟨v, us, rfl, r1, r2⟩ := rv
        have hb : (match bindT t d ρ with
          | some ρ' => bindTs ts ds ρ'
          | none => none) = some ρ' := hb
        cases e1 : bindT t d ρ with
        | none =>
          rw [e1] at hb
          cases hb
        | some ρ1 =>
          rw [e1] at hb
          refine SGs.of (pgs_cons (pg_sg X e) (pgs_sgs X r) (by rw [asg_cons h.1.1]; rfl)) ⟨v, us, rfl, ?_⟩
          refine tg_ok cx t e h.1.2 d ρ ρ1 e1 R F m μ σ H v _ so ro r1 fun σ1 ro1 w1 => ?_
          refine tgs_ok cx ts r h.2 ds ρ1 ρ' hb R F m μ σ1 H us Q so ro1 r2 fun σ2 ro2 w2 => ?_
          refine q σ2 ro2 fun vs hs => ?_
          have hs : ∀ i ∈ t.slots ++ Tg.slotsL ts, i ∈ vs := hs
          exact (w2 vs fun i hi => hs i (List.mem_append_right _ hi)).trans (w1 vs fun i hi => hs i (List.mem_append_left _ hi))
end
end
end Sg
/-! Sg7: the rules for each form of expression. -/
namespace Sg
open PySem L2
section
variable {g : Gx} {ct : CT} {W : WX} {X : Cx} {T : Tab}

theorem up_post {α : Type} {B : Bk} {R : Hp} {W : WX} {σ : St} {F : Hp} {m : List Addr} {μ : Store} {H : Hp} {o : Option α} {r : Except Exc α × Store} {K : Hp → List Addr → Hp → α → Prop} (h : up o μ = some r) (p : Post B R W σ F m r K) (so : SOk B R F m μ H) :
    ∃ a, o = some a ∧ K F m H a := by
  obtain ⟨a, e, rfl⟩ := up_some h
  exact ⟨a, e, p F m H (Grow.refl F m) so⟩
theorem frz_ok {B : Bk} {R F : Hp} {m : List Addr} {μ : Store} {H : Hp} {d : D} {v : V} {r : Except Exc D × Store} (h : frzD d μ = some r) (so : SOk B R F m μ H) (rv : Rep B F m d v) :
    ∃ d' μ' F', r = (.ok d', μ') ∧ Grow F m F' m ∧ SOk B R F' m μ' H ∧ Rep B F' m d' v := by
  unfold frzD at h
  split at h
  · rename_i k
    obtain ⟨a, ea, rfl⟩ := rv
    split at h
    · rename_i xs hk
      obtain ⟨b, vs, eb, gr, so', rp⟩ := so.freeze hk
      rw [ea] at eb
      cases eb
      exact ⟨_, _, _, (Option.some.inj h).symm, gr, so', rp⟩
    · rename_i d hk
      obtain ⟨b, eb, rp, _⟩ := so.cell _ _ hk
      rw [ea] at eb
      cases eb
      exact ⟨_, _, _, (Option.some.inj h).symm, Grow.refl F m, so, rp⟩
    · exact ⟨_, _, _, (Option.some.inj h).symm, Grow.refl F m, so, a, ea, rfl⟩
    · cases h
  · exact ⟨_, _, _, (Option.some.inj h).symm, Grow.refl F m, so, rv⟩
theorem chkV_of {i : Nat} {x : Str} (cx : CxOk g ct W X) (h : chkV ct i x = true) : X.N[i]? = some x ∧ Vis X.env.scope x ∧ (x == ("__debug__" : Str)) = false ∧ (x == ("__classdict__" : Str)) = false := by
  unfold chkV at h
  simp only [Bool.and_eq_true, Bool.not_eq_true'] at h
  obtain ⟨⟨⟨h1, h2⟩, h3⟩, h4⟩ := h
  refine ⟨by rw [cx.N]; exact of_decide_eq_true h1, ?_, h3, h4⟩
  rw [cx.sc]
  split at h2
  · rename_i e
    exact .inl e
  · rename_i e
    exact .inr (.inl e)
  · rename_i e
    exact .inr (.inr e)
  · cases h2
theorem chkG_of {x : Str} (cx : CxOk g ct W X) (h : chkG ct x = true) : Gl X x ∧ (x == ("__debug__" : Str)) = false := by
  unfold chkG at h
  simp only [Bool.and_eq_true, Bool.not_eq_true'] at h
  refine ⟨?_, h.2⟩
  show X.env.scope.names.lookup x = _
  rw [cx.sc]
  exact of_decide_eq_true h.1

/-- something that is worth a constant -/
theorem je_c {e : Expr} {d : D} {v : V} {f : Rho → M D} (he : PE X e (tC v)) (hf : ∀ ρ, f ρ = rt d) (hr : ∀ F m, Rep g.B F m d v) : JE g W X e f := by
  intro ρ μ r h R F m σ H Q so ro po
  rw [hf] at h
  have e := rt_some h
  subst e
  exact SE.of he (po F m H (Grow.refl F m) so v (hr F m))
theorem je_var (cx : CxOk g ct W X) {i : Nat} {x : Str} {pos : Pos} (hv : chkV ct i x = true) : JE g W X (.Name x pos) (evalE T (.var i)) := by
  intro ρ μ r h R F m σ H Q so ro po
  obtain ⟨h1, h2, h3, h4⟩ := chkV_of cx hv
  obtain ⟨d, hd, h⟩ : ∃ d, ρ[i]? = some (some d) ∧ frzD d μ = some r := by
    simp only [evalE] at h
    cases e : ρ[i]? with
    | none =>
      rw [e] at h
      cases h
    | some o =>
      cases o with
      | none =>
        rw [e] at h
        cases h
      | some d =>
        rw [e] at h
        exact ⟨d, rfl, h⟩
  obtain ⟨v, e, rv⟩ := ro.val i d hd
  obtain ⟨d', μ', F', rfl, gr, so', rv'⟩ := frz_ok h so rv
  exact SE.of (pe_var h1 h2 h3 h4) ⟨v, e, po F' m H gr so' v rv'⟩
theorem je_raw (cx : CxOk g ct W X) {i : Nat} {x : Str} {pos : Pos} (hv : chkV ct i x = true) : JE g W X (.Name x pos) (evalE T (.raw i)) := by
  intro ρ μ r h R F m σ H Q so ro po
  obtain ⟨h1, h2, h3, h4⟩ := chkV_of cx hv
  obtain ⟨d, hd, h⟩ : ∃ d, ρ[i]? = some (some d) ∧ rt d μ = some r := by
    simp only [evalE] at h
    cases e : ρ[i]? with
    | none =>
      rw [e] at h
      cases h
    | some o =>
      cases o with
      | none =>
        rw [e] at h
        cases h
      | some d =>
        rw [e] at h
        exact ⟨d, rfl, h⟩
  obtain ⟨v, e, rv⟩ := ro.val i d hd
  have e1 := rt_some h
  subst e1
  exact SE.of (pe_var h1 h2 h3 h4) ⟨v, e, po F m H (Grow.refl F m) so v rv⟩
theorem je_gcon (cx : CxOk g ct W X) (fo : FnsOk g T ct.fns ct.cons) {i : Nat} {x : Str} {pos : Pos} (hg : chkG ct x = true) (hx : ct.cons[i]? = some x) : JE g W X (.Name x pos) (evalE T (.gcon i)) := by
  intro ρ μ r h R F m σ H Q so ro po
  obtain ⟨g1, g2⟩ := chkG_of cx hg
  simp only [evalE] at h
  obtain ⟨d, e, k⟩ := up_post h po so
  obtain ⟨u, v, m1, m2, m3⟩ := fo.con i d x e hx
  exact SE.of (pe_glob g1 (by rw [cx.mg]; exact m1) m2 g2) (k v (m3 F m))
theorem je_bin (cx : CxOk g ct W X) {a b : Expr} {ia ib : E} {op : Operator} {pos : Pos} (ha : JE g W X a (evalE T ia)) (hb : JE g W X b (evalE T ib)) : JE g W X (.BinOp a op b pos) (evalE T (.bin op ia ib)) := by
  intro ρ μ r h R F m σ H Q so ro po
  simp only [evalE] at h
  refine SE.of (pe_op (op_sb X (binaryOp op)) (pe_se X a) (pe_se X b)) ?_
  obtain ⟨ra, ea, pa⟩ := bd_post h po (Ka := QE g fun v H1 => SE X b σ H1 fun u H2 => SB X (binaryOp op) v u H2 Q) fun d1 μ1 e1 h1 F1 m1 H1 gr1 so1 v rv => by
    obtain ⟨rb, eb, pb⟩ := bd_post h1 (po.grow gr1) (Ka := QE g fun u H2 => SB X (binaryOp op) v u H2 Q) fun d2 μ2 e2 h2 F2 m2 H2 gr2 so2 u ru => by
      obtain ⟨z, ez, rfl⟩ := up_some h2
      exact bin_ok cx ez so2 (Rep.mono gr2 _ _ rv) ru fun F' m' H' gr so' => po F' m' H' ((gr1.trans gr2).trans gr) so'
    exact hb ρ μ1 rb eb R F1 m1 σ H1 _ so1 (ro.mono gr1) pb
  exact ha ρ μ ra ea R F m σ H _ so ro pa
theorem je_neg (cx : CxOk g ct W X) {a : Expr} {ia : E} {pos : Pos} (ha : JE g W X a (evalE T ia)) : JE g W X (.UnaryOp .USub a pos) (evalE T (.neg ia)) := by
  intro ρ μ r h R F m σ H Q so ro po
  simp only [evalE] at h
  refine SE.of (pe_un un_neg (pe_se X a)) ?_
  obtain ⟨ra, ea, pa⟩ := bd_post h po (Ka := QE g fun v H1 => rU (fun i => V.int (-i)) v H1 Q) fun d1 μ1 e1 h1 F1 m1 H1 gr1 so1 v rv => by
    split at h1
    · rename_i i
      have e := rt_some h1
      subst e
      have rv : v = .int i := rv
      subst rv
      exact ⟨i, rfl, po F1 m1 H1 gr1 so1 _ rfl⟩
    · cases h1
  exact ha ρ μ ra ea R F m σ H _ so ro pa
theorem marks_of {op : CmpOp} {e : Expr} (h : notSet e = true) : behindInMarks op e = false := by
  cases e <;> first | rfl | cases h
theorem cmp_read (cx : CxOk g ct W X) {a b : Expr} {ia ib : E} {op : CmpOp} (ha : JE g W X a (evalE T ia)) (hb : JE g W X b (evalE T ib)) {ρ : Rho} {μ : Store} {r : Except Exc D × Store} (h : evalE T (.cmp op ia ib) ρ μ = some r)
    {R F : Hp} {m : List Addr} {σ : St} {H : Hp} {Q : VK} (so : SOk g.B R F m μ H) (ro : ROk g.B F m ρ σ) (po : Post g.B R W σ F m r (fun F' m' H' d => ∀ k, d = .bl k → Q (.bl k) H')) : tOp (SB X (compareOp op)) (SE X a) (SE X b) σ H Q := by
  simp only [evalE] at h
  obtain ⟨ra, ea, pa⟩ := bd_post h po (Ka := QE g fun v H1 => SE X b σ H1 fun u H2 => SB X (compareOp op) v u H2 Q) fun d1 μ1 e1 h1 F1 m1 H1 gr1 so1 v rv => by
    obtain ⟨rb, eb, pb⟩ := bd_post h1 (po.grow gr1) (Ka := QE g fun u H2 => SB X (compareOp op) v u H2 Q) fun d2 μ2 e2 h2 F2 m2 H2 gr2 so2 u ru => by
      obtain ⟨z, ez, rfl⟩ := up_some h2
      cases ek : cmpD op d1 d2 with
      | none =>
        rw [ek] at ez
        cases ez
      | some k =>
        rw [ek] at ez
        have ez := Option.some.inj ez
        subst ez
        exact cmp_ok cx ek so2 (Rep.mono gr2 _ _ rv) ru (po F2 m2 H2 (gr1.trans gr2) so2 k rfl)
    exact hb ρ μ1 rb eb R F1 m1 σ H1 _ so1 (ro.mono gr1) pb
  exact ha ρ μ ra ea R F m σ H _ so ro pa
theorem Post.imp {α : Type} {B : Bk} {R : Hp} {W : WX} {σ : St} {F : Hp} {m : List Addr} {r : Except Exc α × Store} {K K' : Hp → List Addr → Hp → α → Prop} (p : Post B R W σ F m r K) (h : ∀ F' m' H' a, K F' m' H' a → K' F' m' H' a) : Post B R W σ F m r K' := by
  obtain ⟨r1, r2⟩ := r
  cases r1 with
  | ok a => exact fun F' m' H' gr so => h _ _ _ _ (p F' m' H' gr so)
  | error x => exact p
theorem je_cmp (cx : CxOk g ct W X) {a b : Expr} {ia ib : E} {op : CmpOp} {pos : Pos} (hm : notSet b = true) (ha : JE g W X a (evalE T ia)) (hb : JE g W X b (evalE T ib)) : JE g W X (.Compare a [op] [b] pos) (evalE T (.cmp op ia ib)) := by
  intro ρ μ r h R F m σ H Q so ro po
  exact SE.of (pe_cmpR (op_sb X (compareOp op)) (pe_se X a) (pe_se X b) (marks_of hm)) (cmp_read cx ha hb h so ro (po.imp fun _ _ _ d k j e => k _ (by subst e; exact rfl)))
theorem jt_cmp (cx : CxOk g ct W X) {a b : Expr} {ia ib : E} {op : CmpOp} {pos : Pos} (hm : notSet b = true) (ha : JE g W X a (evalE T ia)) (hb : JE g W X b (evalE T ib)) : JT g W X (.Compare a [op] [b] pos) (evalT T (.cmp op ia ib)) := by
  intro ρ μ r h R F m σ H Q so ro po
  simp only [evalT] at h
  refine ST.of (pt_cmpR (op_sb X (compareOp op)) (pe_se X a) (pe_se X b) (marks_of hm)) ?_
  obtain ⟨ra, ea, pa⟩ := bd_post h po (Ka := QE g fun v H1 => SE X b σ H1 fun u H2 => SB X (compareOp op) v u H2 fun z H3 => ∃ j, z = .bl j ∧ Q j H3) fun d1 μ1 e1 h1 F1 m1 H1 gr1 so1 v rv => by
    obtain ⟨rb, eb, pb⟩ := bd_post h1 (po.grow gr1) (Ka := QE g fun u H2 => SB X (compareOp op) v u H2 fun z H3 => ∃ j, z = .bl j ∧ Q j H3) fun d2 μ2 e2 h2 F2 m2 H2 gr2 so2 u ru => by
      obtain ⟨k, ek, rfl⟩ := up_some h2
      exact cmp_ok cx ek so2 (Rep.mono gr2 _ _ rv) ru ⟨k, rfl, po F2 m2 H2 (gr1.trans gr2) so2⟩
    exact hb ρ μ1 rb eb R F1 m1 σ H1 _ so1 (ro.mono gr1) pb
  exact ha ρ μ ra ea R F m σ H _ so ro pa
theorem last_of {op op' : CmpOp} {b c : Expr} (h : notSet c = true) : lastMarks [op, op'] [b, c] = false := by
  show behindInMarks op' c = false
  exact marks_of h
theorem chain_read (cx : CxOk g ct W X) {a b c : Expr} {ia ib ic : E} {op op' : CmpOp} (ha : JE g W X a (evalE T ia)) (hb : JE g W X b (evalE T ib)) (hc : JE g W X c (evalE T ic)) {ρ : Rho} {μ : Store} {r : Except Exc D × Store} (h : evalE T (.chain op op' ia ib ic) ρ μ = some r)
    {R F : Hp} {m : List Addr} {σ : St} {H : Hp} {Q : VK} (so : SOk g.B R F m μ H) (ro : ROk g.B F m ρ σ) (po : Post g.B R W σ F m r (fun F' m' H' d => ∀ k, d = .bl k → Q (.bl k) H')) : tChain (SB X (compareOp op)) (SB X (compareOp op')) (SE X a) (SE X b) (SE X c) σ H Q := by
  simp only [evalE] at h
  obtain ⟨ra, ea, pa⟩ := bd_post h po (Ka := QE g fun v H1 => SE X b σ H1 fun u H2 => SB X (compareOp op) v u H2 fun z H3 => ∃ k, z = .bl k ∧ (if k = true then SE X c σ H3 fun w' H4 => SB X (compareOp op') u w' H4 Q else Q (.bl false) H3)) fun d1 μ1 e1 h1 F1 m1 H1 gr1 so1 v rv => by
    obtain ⟨rb, eb, pb⟩ := bd_post h1 (po.grow gr1) (Ka := QE g fun u H2 => SB X (compareOp op) v u H2 fun z H3 => ∃ k, z = .bl k ∧ (if k = true then SE X c σ H3 fun w' H4 => SB X (compareOp op') u w' H4 Q else Q (.bl false) H3)) fun d2 μ2 e2 h2 F2 m2 H2 gr2 so2 u ru => by
      have po2 := po.grow (gr1.trans gr2)
      cases ek : cmpD op d1 d2 with
      | none =>
        rw [ek] at h2
        cases h2
      | some k =>
        rw [ek] at h2
        refine cmp_ok cx ek so2 (Rep.mono gr2 _ _ rv) ru ⟨k, rfl, ?_⟩
        have h2 : (if k = true then bd (evalE T ic ρ) fun z => up ((cmpD op' d2 z).map .bl) else rt (.bl false)) μ2 = some r := h2
        cases k with
        | false =>
          have e := rt_some (show rt (D.bl false) μ2 = some r from h2)
          subst e
          exact iteF (po2 F2 m2 H2 (Grow.refl _ _) so2 false rfl)
        | true =>
          refine iteT ?_
          have h2 : (bd (evalE T ic ρ) fun z => up ((cmpD op' d2 z).map .bl)) μ2 = some r := h2
          obtain ⟨rc, ec, pc⟩ := bd_post h2 po2 (Ka := QE g fun w' H4 => SB X (compareOp op') u w' H4 Q) fun d3 μ3 e3 h3 F3 m3 H3 gr3 so3 w rw' => by
            obtain ⟨z, ez, rfl⟩ := up_some h3
            cases ek' : cmpD op' d2 d3 with
            | none =>
              rw [ek'] at ez
              cases ez
            | some k' =>
              rw [ek'] at ez
              have ez := Option.some.inj ez
              subst ez
              exact cmp_ok cx ek' so3 (Rep.mono gr3 _ _ ru) rw' (po2 F3 m3 H3 gr3 so3 k' rfl)
          exact hc ρ μ2 rc ec R F2 m2 σ H2 _ so2 (ro.mono (gr1.trans gr2)) pc
    exact hb ρ μ1 rb eb R F1 m1 σ H1 _ so1 (ro.mono gr1) pb
  exact ha ρ μ ra ea R F m σ H _ so ro pa
theorem je_chain (cx : CxOk g ct W X) {a b c : Expr} {ia ib ic : E} {op op' : CmpOp} {pos : Pos} (hm : notSet c = true) (ha : JE g W X a (evalE T ia)) (hb : JE g W X b (evalE T ib)) (hc : JE g W X c (evalE T ic)) :
    JE g W X (.Compare a [op, op'] [b, c] pos) (evalE T (.chain op op' ia ib ic)) := by
  intro ρ μ r h R F m σ H Q so ro po
  exact SE.of (pe_chain (op_sb X (compareOp op)) (op_sb X (compareOp op')) (pe_se X a) (pe_se X b) (pe_se X c) (last_of hm)) (chain_read cx ha hb hc h so ro (po.imp fun _ _ _ d k j e => k _ (by subst e; exact rfl)))
theorem jt_chain (cx : CxOk g ct W X) {a b c : Expr} {ia ib ic : E} {op op' : CmpOp} {pos : Pos} (hm : notSet c = true) (ha : JE g W X a (evalE T ia)) (hb : JE g W X b (evalE T ib)) (hc : JE g W X c (evalE T ic)) :
    JT g W X (.Compare a [op, op'] [b, c] pos) (evalT T (.chain op op' ia ib ic)) := by
  intro ρ μ r h R F m σ H Q so ro po
  simp only [evalT] at h
  refine ST.of (pt_chain (op_sb X (compareOp op)) (op_sb X (compareOp op')) (pe_se X a) (pe_se X b) (pe_se X c) (last_of hm)) ?_
  obtain ⟨ra, ea, pa⟩ := bd_post h po (Ka := QE g fun v H1 => SE X b σ H1 fun u H2 => SB X (compareOp op) v u H2 fun z H3 => ∃ k, z = .bl k ∧ (if k = true then SE X c σ H3 fun w' H4 => SB X (compareOp op') u w' H4 fun y H5 => ∃ j, y = .bl j ∧ Q j H5 else ∃ j, V.bl false = .bl j ∧ Q j H3)) fun d1 μ1 e1 h1 F1 m1 H1 gr1 so1 v rv => by
    obtain ⟨rb, eb, pb⟩ := bd_post h1 (po.grow gr1) (Ka := QE g fun u H2 => SB X (compareOp op) v u H2 fun z H3 => ∃ k, z = .bl k ∧ (if k = true then SE X c σ H3 fun w' H4 => SB X (compareOp op') u w' H4 fun y H5 => ∃ j, y = .bl j ∧ Q j H5 else ∃ j, V.bl false = .bl j ∧ Q j H3)) fun d2 μ2 e2 h2 F2 m2 H2 gr2 so2 u ru => by
      have po2 := po.grow (gr1.trans gr2)
      cases ek : cmpD op d1 d2 with
      | none =>
        rw [ek] at h2
        cases h2
      | some k =>
        rw [ek] at h2
        refine cmp_ok cx ek so2 (Rep.mono gr2 _ _ rv) ru ⟨k, rfl, ?_⟩
        have h2 : (if k = true then bd (evalE T ic ρ) fun z => up (cmpD op' d2 z) else rt false) μ2 = some r := h2
        cases k with
        | false =>
          have e := rt_some (show rt false μ2 = some r from h2)
          subst e
          exact iteF ⟨false, rfl, po2 F2 m2 H2 (Grow.refl _ _) so2⟩
        | true =>
          refine iteT ?_
          have h2 : (bd (evalE T ic ρ) fun z => up (cmpD op' d2 z)) μ2 = some r := h2
          obtain ⟨rc, ec, pc⟩ := bd_post h2 po2 (Ka := QE g fun w' H4 => SB X (compareOp op') u w' H4 fun y H5 => ∃ j, y = .bl j ∧ Q j H5) fun d3 μ3 e3 h3 F3 m3 H3 gr3 so3 w rw' => by
            obtain ⟨k', ek', rfl⟩ := up_some h3
            exact cmp_ok cx ek' so3 (Rep.mono gr3 _ _ ru) rw' ⟨k', rfl, po2 F3 m3 H3 gr3 so3⟩
          exact hc ρ μ2 rc ec R F2 m2 σ H2 _ so2 (ro.mono (gr1.trans gr2)) pc
    exact hb ρ μ1 rb eb R F1 m1 σ H1 _ so1 (ro.mono gr1) pb
  exact ha ρ μ ra ea R F m σ H _ so ro pa
theorem je_one {a : Expr} {op : BoolOp} {pos : Pos} {f : Rho → M D} (ha : JE g W X a f) : JE g W X (.BoolOp op [a] pos) f := by
  intro ρ μ r h R F m σ H Q so ro po
  exact SE.of (pe_one (pe_se X a)) (ha ρ μ r h R F m σ H Q so ro po)
theorem je_and {a b : Expr} {rest : List Expr} {pos : Pos} {ia ib : E} (ha : JE g W X a (evalE T ia)) (hb : JE g W X (.BoolOp .And (b :: rest) pos) (evalE T ib)) : JE g W X (.BoolOp .And (a :: b :: rest) pos) (evalE T (.and ia ib)) := by
  intro ρ μ r h R F m σ H Q so ro po
  simp only [evalE] at h
  refine SE.of (pe_and (pe_se X a) (pe_se X _)) ?_
  obtain ⟨ra, ea, pa⟩ := bd_post h po (Ka := QE g fun x H1 => ∃ c, x = .bl c ∧ if c = true then SE X (.BoolOp .And (b :: rest) pos) σ H1 Q else Q (.bl false) H1) fun d1 μ1 e1 h1 F1 m1 H1 gr1 so1 v rv => by
    split at h1
    · have rv : v = _ := rv
      subst rv
      exact ⟨true, rfl, iteT (hb ρ μ1 r h1 R F1 m1 σ H1 Q so1 (ro.mono gr1) (po.grow gr1))⟩
    · have rv : v = _ := rv
      subst rv
      have e := rt_some h1
      subst e
      exact ⟨false, rfl, iteF (po F1 m1 H1 gr1 so1 _ rfl)⟩
    · cases h1
  exact ha ρ μ ra ea R F m σ H _ so ro pa
theorem je_or {a b : Expr} {rest : List Expr} {pos : Pos} {ia ib : E} (ha : JE g W X a (evalE T ia)) (hb : JE g W X (.BoolOp .Or (b :: rest) pos) (evalE T ib)) : JE g W X (.BoolOp .Or (a :: b :: rest) pos) (evalE T (.or ia ib)) := by
  intro ρ μ r h R F m σ H Q so ro po
  simp only [evalE] at h
  refine SE.of (pe_or (pe_se X a) (pe_se X _)) ?_
  obtain ⟨ra, ea, pa⟩ := bd_post h po (Ka := QE g fun x H1 => ∃ c, x = .bl c ∧ if c = true then Q (.bl true) H1 else SE X (.BoolOp .Or (b :: rest) pos) σ H1 Q) fun d1 μ1 e1 h1 F1 m1 H1 gr1 so1 v rv => by
    split at h1
    · have rv : v = _ := rv
      subst rv
      exact ⟨false, rfl, iteF (hb ρ μ1 r h1 R F1 m1 σ H1 Q so1 (ro.mono gr1) (po.grow gr1))⟩
    · have rv : v = _ := rv
      subst rv
      have e := rt_some h1
      subst e
      exact ⟨true, rfl, iteT (po F1 m1 H1 gr1 so1 _ rfl)⟩
    · cases h1
  exact ha ρ μ ra ea R F m σ H _ so ro pa
theorem je_not {a : Expr} {pos : Pos} {ia : E} (ha : JE g W X a (evalE T ia)) : JE g W X (.UnaryOp .Not a pos) (evalE T (.not ia)) := by
  intro ρ μ r h R F m σ H Q so ro po
  simp only [evalE] at h
  refine SE.of (pe_not (pe_se X a)) ?_
  obtain ⟨ra, ea, pa⟩ := bd_post h po (Ka := QE g fun x H1 => ∃ c, x = .bl c ∧ Q (.bl (!c)) H1) fun d1 μ1 e1 h1 F1 m1 H1 gr1 so1 v rv => by
    split at h1
    · rename_i k
      have rv : v = _ := rv
      subst rv
      have e := rt_some h1
      subst e
      exact ⟨k, rfl, po F1 m1 H1 gr1 so1 _ rfl⟩
    · cases h1
  exact ha ρ μ ra ea R F m σ H _ so ro pa
theorem je_ite {c a b : Expr} {pos : Pos} {ic : B} {ia ib : E} (hc : JT g W X c (evalT T ic)) (ha : JE g W X a (evalE T ia)) (hb : JE g W X b (evalE T ib)) : JE g W X (.IfExp c a b pos) (evalE T (.ite ic ia ib)) := by
  intro ρ μ r h R F m σ H Q so ro po
  simp only [evalE] at h
  refine SE.of (pe_ifExp (pt_st X c) (pe_se X a) (pe_se X b)) ?_
  obtain ⟨rc, ec, pc⟩ := bd_post h po (Ka := fun F' m' H' k => if k = true then SE X a σ H' Q else SE X b σ H' Q) fun k μ1 e1 h1 F1 m1 H1 gr1 so1 => by
    cases k with
    | true => exact iteT (ha ρ μ1 r h1 R F1 m1 σ H1 Q so1 (ro.mono gr1) (po.grow gr1))
    | false => exact iteF (hb ρ μ1 r h1 R F1 m1 σ H1 Q so1 (ro.mono gr1) (po.grow gr1))
  exact hc ρ μ rc ec R F m σ H _ so ro pc
theorem ja_nil : JA g W X [] (evalL T []) := by
  intro ρ μ r h R F m σ H Q so ro po
  simp only [evalL] at h
  have e := rt_some h
  subst e
  exact SA.of pa_nil (po F m H (Grow.refl F m) so [] rfl)
theorem ja_cons {e : Expr} {es : List Expr} {ie : E} {ies : List E} (hs : notStar e = true) (he : JE g W X e (evalE T ie)) (hes : JA g W X es (evalL T ies)) : JA g W X (e :: es) (evalL T (ie :: ies)) := by
  intro ρ μ r h R F m σ H Q so ro po
  simp only [evalL] at h
  refine SA.of (pa_cons (pe_se X e) (pa_sa X es) (star_cons hs es X.env)) ?_
  obtain ⟨ra, ea, pa⟩ := bd_post h po (Ka := QE g fun x H1 => SA X es σ H1 fun xs H2 => Q (x :: xs) H2) fun d1 μ1 e1 h1 F1 m1 H1 gr1 so1 v rv => by
    obtain ⟨rb, eb, pb⟩ := bd_post h1 (po.grow gr1) (Ka := fun F' m' H' ds => ∀ vs, RepL g.B F' m' ds vs → Q (v :: vs) H') fun ds μ2 e2 h2 F2 m2 H2 gr2 so2 us ru => by
      have e := rt_some h2
      subst e
      exact po F2 m2 H2 (gr1.trans gr2) so2 (v :: us) ⟨v, us, rfl, Rep.mono gr2 _ _ rv, ru⟩
    exact hes ρ μ1 rb eb R F1 m1 σ H1 _ so1 (ro.mono gr1) pb
  exact he ρ μ ra ea R F m σ H _ so ro pa
theorem je_tup {es : List Expr} {ies : List E} {k : Nat} {pos : Pos} (h : JA g W X es (evalL T ies)) : JE g W X (.Tuple es k pos) (evalE T (.tup ies)) := by
  intro ρ μ r h0 R F m σ H Q so ro po
  simp only [evalE] at h0
  refine SE.of (pe_tup (pa_sa X es)) ?_
  obtain ⟨ra, ea, pa⟩ := bd_post h0 po (Ka := fun F' m' H' ds => ∀ vs, RepL g.B F' m' ds vs → vs.length ≤ sizeLine ∧ ∀ p, H' p = none → Q (.ref p) (upd H' p (.tup vs))) fun ds μ1 e1 h1 F1 m1 H1 gr1 so1 vs rv => by
    split at h1
    · rename_i hl
      have e := rt_some h1
      subst e
      exact ⟨by rw [← rv.length]; exact hl, Aft.tup (g := g) (R := R) (fun F' m' H' gr so' => po F' m' H' (gr1.trans gr) so') so1 rv⟩
    · cases h1
  exact h ρ μ ra ea R F m σ H _ so ro pa
theorem je_lst {es : List Expr} {ies : List E} {pos : Pos} (h : JA g W X es (evalL T ies)) : JE g W X (.List es pos) (evalE T (.lst ies)) := by
  intro ρ μ r h0 R F m σ H Q so ro po
  simp only [evalE] at h0
  refine SE.of (pe_lst (pa_sa X es)) ?_
  obtain ⟨ra, ea, pa⟩ := bd_post h0 po (Ka := fun F' m' H' ds => ∀ vs, RepL g.B F' m' ds vs → vs.length ≤ sizeLine ∧ ∀ p, H' p = none → Q (.ref p) (upd H' p (.lst vs))) fun ds μ1 e1 h1 F1 m1 H1 gr1 so1 vs rv => by
    split at h1
    · rename_i hl
      have e := rt_some h1
      subst e
      exact ⟨by rw [← rv.length]; exact hl, Aft.lst (g := g) (R := R) (fun F' m' H' gr so' => po F' m' H' (gr1.trans gr) so') so1 rv⟩
    · cases h1
  exact h ρ μ ra ea R F m σ H _ so ro pa
theorem je_emp {pos : Pos} : JE g W X (.Dict [] [] pos) (evalE T .emp) := by
  intro ρ μ r h R F m σ H Q so ro po
  simp only [evalE] at h
  have e := rt_some h
  subst e
  refine SE.of pe_dnewK ?_
  intro p hp
  obtain ⟨gr, so'⟩ := so.new (o := .dK []) hp
  exact po _ m _ gr so' _ ⟨p, [], rfl, upd_same, rfl, rfl⟩
theorem je_call (cx : CxOk g ct W X) (fo : FnsOk g T ct.fns ct.cons) {x : Str} {xs : List Expr} {f : Nat} {es : List E} {p pos : Pos} (hg : chkG ct x = true) (hf : ct.fns[f]? = some x) (hc : chkL ct es xs = true) (ha : JA g W X xs (evalL T es)) :
    JE g W X (.Call (.Name x p) xs [] pos) (evalE T (.call f es)) := by
  intro ρ μ r h R F m σ H Q so ro po
  obtain ⟨g1, g2⟩ := chkG_of cx hg
  simp only [evalE] at h
  have hlt : f < T.fns.length := by
    rw [fo.ln]
    exact (List.getElem?_eq_some_iff.mp hf).1
  have ef : T.fns[f]? = some T.fns[f] := List.getElem?_eq_getElem hlt
  generalize T.fns[f] = t at ef
  rw [ef] at h
  obtain ⟨fa, fd, ps, q1, q2, q3, q4⟩ := fo.fn f t x ef hf
  intro pins s I
  refine wpAny_Call_Name_kw (ld_glob I g1 (by rw [cx.mg]; exact q1) ?_ g2)
  have q2 : PySem.W.keepIn X.K (.ref fa) = true := by
    rw [cx.K]
    exact q2
  obtain ⟨ra, ea, pa⟩ := bd_post h po (Ka := fun F' m' H' ds => ∀ vs, RepL g.B F' m' ds vs → ∀ (pins : List (Addr × Obj)) (s : Shared) (us : List Value), L2.Inv X pins σ H' s → Vals vs us → wpAny (model X.prog X.w) X.A (call (.ref fa) us) (EP X pins σ Q) X.xe s) fun ds μ1 e1 h1 F1 m1 H1 gr1 so1 vs rv =>
    fn_run cx q4 q3 h1 so1 rv (po.grow gr1)
  have hA := ha ρ μ ra ea R F m σ H _ so ro pa
  cases xs with
  | nil =>
    refine PySem.W.callWith_K0 I.kIn q2 ?_
    cases es with
    | nil =>
      simp only [evalL] at ea
      have e := rt_some ea
      subst e
      exact pa F m H (Grow.refl F m) so [] rfl pins s [] I .nil
    | cons _ _ => cases hc
  | cons y ys =>
    cases es with
    | nil => cases hc
    | cons ie ies =>
      have hc : (notStar y && chkE ct ie y && chkL ct ies ys) = true := hc
      simp only [Bool.and_eq_true] at hc
      refine PySem.W.callWith_K (h₀ := X.base) I.ok.mod.kin q2 (thn (hA pos pins s I) fun us s1 ⟨vs, H1, I1, r1, k1⟩ => ⟨I1.kIn, ?_⟩) (star_cons hc.1.1 ys X.env) (star_none hc.2)
      exact k1 pins s1 us I1 r1
theorem je_blt (cx : CxOk g ct W X) (fo : FnsOk g T ct.fns ct.cons) {x : Str} {xs : List Expr} {b : Blt} {es : List E} {p pos : Pos} (hg : chkG ct x = true) (hx : x = b.nm) (hn : xs.isEmpty = false) (hc : chkL ct es xs = true) (ha : JA g W X xs (evalL T es)) :
    JE g W X (.Call (.Name x p) xs [] pos) (evalE T (.blt b es)) := by
  intro ρ μ r h R F m σ H Q so ro po
  obtain ⟨g1, g2⟩ := chkG_of cx hg
  subst hx
  simp only [evalE] at h
  have hmg : X.mg b.nm = none := by
    rw [cx.mg]
    exact fo.blt _ b.mem
  obtain ⟨ra, ea, pa⟩ := bd_post h po (Ka := fun F' m' H' ds => ∀ vs, RepL g.B F' m' ds vs → SC X b.val vs H' Q) fun ds μ1 e1 h1 F1 m1 H1 gr1 so1 vs rv => by
    obtain ⟨z, ez, rfl⟩ := up_some h1
    exact blt_ok cx ez so1 rv fun F' m' H' gr so' => po F' m' H' (gr1.trans gr) so'
  have hA := ha ρ μ ra ea R F m σ H _ so ro pa
  cases xs with
  | nil => cases hn
  | cons y ys =>
    cases es with
    | nil => cases hc
    | cons ie ies =>
      have hc : (notStar y && chkE ct ie y && chkL ct ies ys) = true := hc
      simp only [Bool.and_eq_true] at hc
      cases hv : b.val with
      | builtin id =>
        refine SE.of (pe_callB (id := id) (call_sc X (.builtin id)) g1 hmg (by rw [← hv]; exact b.boot) (pa_sa X (y :: ys)) b.nn g2 (star_cons hc.1.1 ys X.env) (star_none hc.2)) ?_
        rw [hv] at hA
        exact hA
      | type id =>
        refine SE.of (pe_callTy (T := id) (call_sc X (.type id)) g1 hmg (by rw [← hv]; exact b.boot) (pa_sa X (y :: ys)) b.nn g2 (star_cons hc.1.1 ys X.env) (star_none hc.2)) ?_
        rw [hv] at hA
        exact hA
      | _ => cases b <;> cases hv
theorem boot_ty : ∀ n ∈ ["int", "str", "tuple", "list", "dict", "bool"], bootBuiltins (Str.ofString n) = some (.type n) ∧ Str.ofString n ∈ bltNames ∧ Str.ofString n ≠ "__name__" := by decide +kernel
theorem je_isi (cx : CxOk g ct W X) (fo : FnsOk g T ct.fns ct.cons) {x n : Str} {y : Expr} {a : E} {s : String} {p pn pos : Pos} (hg : chkG ct x = true) (hx : x = "isinstance") (hgn : chkG ct n = true) (hn : n = Str.ofString s) (hm : s ∈ ["int", "str", "tuple", "list", "dict", "bool"])
    (hy : notStar y = true) (ha : JE g W X y (evalE T a)) : JE g W X (.Call (.Name x p) [y, .Name n pn] [] pos) (evalE T (.isi a (.ty s))) := by
  intro ρ μ r h R F m σ H Q so ro po
  obtain ⟨g1, g2⟩ := chkG_of cx hg
  obtain ⟨k1, k2⟩ := chkG_of cx hgn
  obtain ⟨b1, b2, b3⟩ := boot_ty s hm
  subst hx hn
  simp only [evalE] at h
  have hmg : X.mg "isinstance" = none := by
    rw [cx.mg]
    exact fo.blt _ (by decide +kernel)
  have hmn : X.mg (Str.ofString s) = none := by
    rw [cx.mg]
    exact fo.blt _ b2
  have pn' : PE X (.Name (Str.ofString s) pn) (tC (.ty s)) := pe_bltn k1 hmn b1 rfl b3 k2
  refine SE.of (pe_callB (id := "isinstance") (call_sc X (.builtin "isinstance")) g1 hmg (by decide +kernel) (pa_cons (pe_se X y) (pa_cons pn' pa_nil) (star_cons hy _ _)) (by decide +kernel) g2 (star_cons hy _ _) (by rfl)) ?_
  obtain ⟨ra, ea, pa⟩ := bd_post h po (Ka := QE g fun v H1 => SC X (.builtin "isinstance") [v, .ty s] H1 Q) fun d μ1 e1 h1 F1 m1 H1 gr1 so1 v rv => by
    obtain ⟨z, ez, rfl⟩ := up_some h1
    cases ek : isiD d (.ty s) with
    | none =>
      rw [ek] at ez
      cases ez
    | some k =>
      rw [ek] at ez
      have ez := Option.some.inj ez
      subst ez
      exact isi_ok cx ek so1 rv (po F1 m1 H1 gr1 so1 _ rfl)
  exact ha ρ μ ra ea R F m σ H _ so ro pa
theorem base_of {o : Expr} {nm : Str} {env : Env} (h : notSuper o = true) : attributeBase o nm env (eval o env) = eval o env := by
  cases o <;> first | rfl | cases h
theorem je_mth (cx : CxOk g ct W X) {o : Expr} {nm : Str} {xs : List Expr} {mt : Mth} {io : E} {es : List E} {apos pos : Pos} (hnm : nm = mt.nm) (hs : notSuper o = true) (hl : (apos.endLine == pos.line) = true) (hc : chkL ct es xs = true) (h30 : xs.length < 30)
    (ho : JE g W X o (evalE T io)) (ha : JA g W X xs (evalL T es)) : JE g W X (.Call (.Attribute o nm apos) xs [] pos) (evalE T (.mth mt io es)) := by
  intro ρ μ r h R F m σ H Q so ro po
  subst hnm
  simp only [evalE] at h
  have hb := base_of (nm := mt.nm) (env := X.env) hs
  cases xs with
  | nil =>
    cases es with
    | cons _ _ => cases hc
    | nil =>
      refine SE.of (pe_bm0 mt.plain mt.slot mt.typ (mt_sm X mt.id) (pe_se X o) hb hl) ?_
      obtain ⟨ra, ea, pa⟩ := bd_post h po (Ka := QE g fun v H1 => tyV X.K mt.of v H1 ∧ SM X mt.id v [] H1 Q) fun d μ1 e1 h1 F1 m1 H1 gr1 so1 v rv => by
        split at h1
        · rename_i ht
          simp only [evalL] at h1
          have h1 : up (mthD mt d []) μ1 = some r := h1
          obtain ⟨z, ez, rfl⟩ := up_some h1
          exact ⟨mth_ty cx ht so1 rv, mth_ok cx ez so1 rv rfl fun F' m' H' gr so' => po F' m' H' (gr1.trans gr) so'⟩
        · cases h1
      exact ho ρ μ ra ea R F m σ H _ so ro pa
  | cons y ys =>
    cases es with
    | nil => cases hc
    | cons ie ies =>
      have hc0 := hc
      have hc : (notStar y && chkE ct ie y && chkL ct ies ys) = true := hc
      simp only [Bool.and_eq_true] at hc
      have hfew : (((backTo pos (starEach (y :: ys) X.env)).all fun x => !x.fst) && ((backToKw pos (keywordEach [] X.env)).all fun x => x.fst.isSome) && decide ((y :: ys).length + ([] : List Keyword).length + (if ([] : List Keyword).isEmpty = true then 0 else 1) < 30)) = true := by
        rw [star_all hc0]
        show (true && true && decide ((y :: ys).length + 0 + 0 < 30)) = true
        rw [Nat.add_zero, decide_eq_true h30]
        rfl
      refine SE.of (pe_bm mt.plain mt.slot mt.typ (mt_sm X mt.id) (pe_se X o) (pa_sa X (y :: ys)) hb hfew hl (star_cons hc.1.1 ys X.env) (star_none hc.2)) ?_
      obtain ⟨ra, ea, pa⟩ := bd_post h po (Ka := QE g fun v H1 => tyV X.K mt.of v H1 ∧ SA X (y :: ys) σ H1 fun vs H2 => SM X mt.id v vs H2 Q) fun d μ1 e1 h1 F1 m1 H1 gr1 so1 v rv => by
        split at h1
        · rename_i ht
          refine ⟨mth_ty cx ht so1 rv, ?_⟩
          obtain ⟨rb, eb, pb⟩ := bd_post h1 (po.grow gr1) (Ka := fun F' m' H' ds => ∀ vs, RepL g.B F' m' ds vs → SM X mt.id v vs H' Q) fun ds μ2 e2 h2 F2 m2 H2 gr2 so2 vs rvs => by
            obtain ⟨z, ez, rfl⟩ := up_some h2
            exact mth_ok cx ez so2 (Rep.mono gr2 _ _ rv) rvs fun F' m' H' gr so' => po F' m' H' ((gr1.trans gr2).trans gr) so'
          exact ha ρ μ1 rb eb R F1 m1 σ H1 _ so1 (ro.mono gr1) pb
        · cases h1
      exact ho ρ μ ra ea R F m σ H _ so ro pa
theorem plain_ix {y : Expr} (h : notSlice y = true) : PlainIx y := by
  intro o i
  cases y <;> first | rfl | cases h
theorem je_sub (cx : CxOk g ct W X) {o y : Expr} {io iy : E} {pos : Pos} (hs : notSlice y = true) (ho : JE g W X o (evalE T io)) (hy : JE g W X y (evalE T iy)) : JE g W X (.Subscript o y pos) (evalE T (.sub io iy)) := by
  intro ρ μ r h R F m σ H Q so ro po
  simp only [evalE] at h
  refine SE.of (pe_ix (ix_sx X) (pe_se X o) (pe_se X y) (plain_ix hs)) ?_
  obtain ⟨ra, ea, pa⟩ := bd_post h po (Ka := QE g fun v H1 => SE X y σ H1 fun u H2 => SX X v u H2 Q) fun d1 μ1 e1 h1 F1 m1 H1 gr1 so1 v rv => by
    obtain ⟨rb, eb, pb⟩ := bd_post h1 (po.grow gr1) (Ka := QE g fun u H2 => SX X v u H2 Q) fun d2 μ2 e2 h2 F2 m2 H2 gr2 so2 u ru => by
      obtain ⟨z, ez, rfl⟩ := up_some h2
      exact sub_ok cx ez so2 (Rep.mono gr2 _ _ rv) ru fun w rw' => po F2 m2 H2 (gr1.trans gr2) so2 w rw'
    exact hy ρ μ1 rb eb R F1 m1 σ H1 _ so1 (ro.mono gr1) pb
  exact ho ρ μ ra ea R F m σ H _ so ro pa
theorem jo_none : JO g W X none (evalO T none) := by
  intro ρ μ r h R F m σ H Q so ro po
  simp only [evalO] at h
  have e := rt_some h
  subst e
  exact fun pins s I => po_none.run pins s σ H Q I (po F m H (Grow.refl F m) so)
theorem jo_some {e : Expr} {ie : E} (he : JE g W X e (evalE T ie)) : JO g W X (some e) (evalO T (some ie)) := by
  intro ρ μ r h R F m σ H Q so ro po
  simp only [evalO] at h
  refine fun pins s I => (po_some (pe_se X e)).run pins s σ H Q I ?_
  obtain ⟨ra, ea, pa⟩ := bd_post h po (Ka := QE g fun x H1 => ∃ i, x = .int i ∧ Q (some i) H1) fun d μ1 e1 h1 F1 m1 H1 gr1 so1 v rv => by
    split at h1
    · rename_i i
      have rv : v = .int i := rv
      subst rv
      have e := rt_some h1
      subst e
      exact ⟨i, rfl, po F1 m1 H1 gr1 so1⟩
    · cases h1
  exact he ρ μ ra ea R F m σ H _ so ro pa
theorem je_slc (cx : CxOk g ct W X) {o : Expr} {lo hi : Option Expr} {io : E} {il ih : Option E} {pos p2 : Pos} (ho : JE g W X o (evalE T io)) (hl : JO g W X lo (evalO T il)) (hh : JO g W X hi (evalO T ih)) :
    JE g W X (.Subscript o (.Slice lo hi none p2) pos) (evalE T (.slc io il ih)) := by
  intro ρ μ r h R F m σ H Q so ro po
  simp only [evalE] at h
  refine SE.of (pe_slice (sl_sz X) (pe_se X o) (po_so X lo) (po_so X hi)) ?_
  obtain ⟨ra, ea, pa⟩ := bd_post h po (Ka := QE g fun v H1 => SO X lo σ H1 fun l H2 => SO X hi σ H2 fun u H3 => SZ X v l u H3 Q) fun d1 μ1 e1 h1 F1 m1 H1 gr1 so1 v rv => by
    obtain ⟨rb, eb, pb⟩ := bd_post h1 (po.grow gr1) (Ka := fun _ _ H2 l => SO X hi σ H2 fun u H3 => SZ X v l u H3 Q) fun l μ2 e2 h2 F2 m2 H2 gr2 so2 => by
      obtain ⟨rc, ec, pc⟩ := bd_post h2 (po.grow (gr1.trans gr2)) (Ka := fun _ _ H3 u => SZ X v l u H3 Q) fun u μ3 e3 h3 F3 m3 H3 gr3 so3 => by
        obtain ⟨z, ez, rfl⟩ := up_some h3
        exact slc_ok cx ez so3 (Rep.mono (gr2.trans gr3) _ _ rv) fun F' m' H' gr so' => po F' m' H' (((gr1.trans gr2).trans gr3).trans gr) so'
      exact hh ρ μ2 rc ec R F2 m2 σ H2 _ so2 (ro.mono (gr1.trans gr2)) pc
    exact hl ρ μ1 rb eb R F1 m1 σ H1 _ so1 (ro.mono gr1) pb
  exact ho ρ μ ra ea R F m σ H _ so ro pa

/-! ### tests -/
theorem jt_not {a : Expr} {pos : Pos} {ia : B} (ha : JT g W X a (evalT T ia)) : JT g W X (.UnaryOp .Not a pos) (evalT T (.not ia)) := by
  intro ρ μ r h R F m σ H Q so ro po
  simp only [evalT] at h
  refine ST.of (pt_not (pt_st X a)) ?_
  obtain ⟨ra, ea, pa⟩ := bd_post h po (Ka := fun _ _ H' k => Q (!k) H') fun k μ1 e1 h1 F1 m1 H1 gr1 so1 => by
    have e := rt_some h1
    subst e
    exact po F1 m1 H1 gr1 so1
  exact ha ρ μ ra ea R F m σ H _ so ro pa
/-- a test whatever its whole is -/
def JW (g : Gx) (W : WX) (X : Cx) (e : Expr) (f : Rho → M Bool) : Prop := ∀ ρ μ r, f ρ μ = some r → ∀ R F m σ H (Q : Bool → Hp → Prop), SOk g.B R F m μ H → ROk g.B F m ρ σ → Post g.B R W σ F m r (fun _ _ H' b => Q b H') →
  ∀ (whole : Sem Value) (pins : List (Addr × Obj)) (s : Shared), L2.Inv X pins σ H s → wpAny (model X.prog X.w) X.A (isTrue e X.env whole) (TP X pins σ Q) X.xe s
def SW (X : Cx) (e : Expr) : TT := fun σ H Q => ∀ (whole : Sem Value) (pins : List (Addr × Obj)) (s : Shared), L2.Inv X pins σ H s → wpAny (model X.prog X.w) X.A (isTrue e X.env whole) (TP X pins σ Q) X.xe s
theorem pw_sw (X : Cx) (e : Expr) : PW X e (SW X e) := ⟨fun whole pins s σ H Q I h => h whole pins s I⟩
theorem JW.jt {e : Expr} {f : Rho → M Bool} (h : JW g W X e f) : JT g W X e f := fun ρ μ r hf R F m σ H Q so ro po pins s I => h ρ μ r hf R F m σ H Q so ro po _ pins s I
theorem jw_and1 {a : Expr} {pos : Pos} {f : Rho → M Bool} (ha : JT g W X a f) : JW g W X (.BoolOp .And [a] pos) f := fun ρ μ r h R F m σ H Q so ro po whole pins s I =>
  (pw_and1 (pt_st X a)).run whole pins s σ H Q I (ha ρ μ r h R F m σ H Q so ro po)
theorem jw_or1 {a : Expr} {pos : Pos} {f : Rho → M Bool} (ha : JT g W X a f) : JW g W X (.BoolOp .Or [a] pos) f := fun ρ μ r h R F m σ H Q so ro po whole pins s I =>
  (pw_or1 (pt_st X a)).run whole pins s σ H Q I (ha ρ μ r h R F m σ H Q so ro po)
theorem jw_and {a b : Expr} {rest : List Expr} {pos : Pos} {ia ib : B} (ha : JT g W X a (evalT T ia)) (hb : JW g W X (.BoolOp .And (b :: rest) pos) (evalT T ib)) : JW g W X (.BoolOp .And (a :: b :: rest) pos) (evalT T (.and ia ib)) := by
  intro ρ μ r h R F m σ H Q so ro po whole pins s I
  simp only [evalT] at h
  refine (pw_and (pt_st X a) (pw_sw X _)).run whole pins s σ H Q I ?_
  obtain ⟨ra, ea, pa⟩ := bd_post h po (Ka := fun _ _ H' k => if k = true then SW X (.BoolOp .And (b :: rest) pos) σ H' Q else Q false H') fun k μ1 e1 h1 F1 m1 H1 gr1 so1 => by
    cases k with
    | true => exact iteT fun whole pins s I => hb ρ μ1 r h1 R F1 m1 σ H1 Q so1 (ro.mono gr1) (po.grow gr1) whole pins s I
    | false =>
      have e := rt_some (show rt false μ1 = some r from h1)
      subst e
      exact iteF (po F1 m1 H1 gr1 so1)
  exact ha ρ μ ra ea R F m σ H _ so ro pa
theorem jw_or {a b : Expr} {rest : List Expr} {pos : Pos} {ia ib : B} (ha : JT g W X a (evalT T ia)) (hb : JW g W X (.BoolOp .Or (b :: rest) pos) (evalT T ib)) : JW g W X (.BoolOp .Or (a :: b :: rest) pos) (evalT T (.or ia ib)) := by
  intro ρ μ r h R F m σ H Q so ro po whole pins s I
  simp only [evalT] at h
  refine (pw_or (pt_st X a) (pw_sw X _)).run whole pins s σ H Q I ?_
  obtain ⟨ra, ea, pa⟩ := bd_post h po (Ka := fun _ _ H' k => if k = true then Q true H' else SW X (.BoolOp .Or (b :: rest) pos) σ H' Q) fun k μ1 e1 h1 F1 m1 H1 gr1 so1 => by
    cases k with
    | false => exact iteF fun whole pins s I => hb ρ μ1 r h1 R F1 m1 σ H1 Q so1 (ro.mono gr1) (po.grow gr1) whole pins s I
    | true =>
      have e := rt_some (show rt true μ1 = some r from h1)
      subst e
      exact iteT (po F1 m1 H1 gr1 so1)
  exact ha ρ μ ra ea R F m σ H _ so ro pa
theorem plain_t {e : Expr} {env : Env} (h : plainT e = true) : ∀ whole : Sem Value, isTrue e env whole = (do
    let v ← whole
    standAt e.pos
    holding [v] (truthy v)) := by
  intro whole
  cases e <;> first | rfl | cases h | skip
  rename_i op x pos
  cases op <;> first | rfl | cases h
theorem jt_val (cx : CxOk g ct W X) {e : Expr} {ie : E} (hp : plainT e = true) (he : JE g W X e (evalE T ie)) : JT g W X e (evalT T (.val ie)) := by
  intro ρ μ r h R F m σ H Q so ro po
  simp only [evalT] at h
  refine ST.of (pt_truth (pe_se X e) (plain_t hp)) ?_
  obtain ⟨ra, ea, pa⟩ := bd_post h po (Ka := QE g fun v H1 => ∃ k, TruV X.K v H1 k ∧ Q k H1) fun d μ1 e1 h1 F1 m1 H1 gr1 so1 v rv => by
    obtain ⟨z, ez, rfl⟩ := up_some h1
    exact ⟨z, tru_ok cx so1 ez rv, po F1 m1 H1 gr1 so1⟩
  exact he ρ μ ra ea R F m σ H _ so ro pa
theorem jts_nil : JTs g W X [] (evalTs T []) := by
  intro ρ μ r h R F m σ H Q so ro po pins s I
  simp only [evalTs] at h
  have e := rt_some h
  subst e
  exact pts_nil.run pins s σ H Q I (po F m H (Grow.refl F m) so)
theorem jts_one {e : Expr} {ie : B} (he : JT g W X e (evalT T ie)) : JTs g W X [e] (evalTs T [ie]) := by
  intro ρ μ r h R F m σ H Q so ro po pins s I
  simp only [evalTs] at h
  refine (pts_one (pt_st X e)).run pins s σ H Q I ?_
  obtain ⟨ra, ea, pa⟩ := bd_post h po (Ka := fun _ _ H' k => Q k H') fun k μ1 e1 h1 F1 m1 H1 gr1 so1 => by
    cases k with
    | true =>
      have e := rt_some (show rt true μ1 = some r from h1)
      subst e
      exact po F1 m1 H1 gr1 so1
    | false =>
      have e := rt_some (show rt false μ1 = some r from h1)
      subst e
      exact po F1 m1 H1 gr1 so1
  exact he ρ μ ra ea R F m σ H _ so ro pa
end
end Sg
/-! Sg8: walks, comprehensions, and the theorem of expressions. -/
namespace Sg
open PySem L2
section
variable {g : Gx} {ct : CT} {W : WX} {X : Cx} {T : Tab}

/-! ### walks -/
theorem walk_still {B : Bk} {F : Hp} {m : List Addr} {J : It} {ds : List D} {Y : Nat → Hp → V → Hp → Prop} (w : Walk J ds.length (fun H => Same F H) Y) (hy : ∀ i H x H', i < ds.length → Same F H → Y i H x H' → H' = H ∧ ∃ d, ds[i]? = some d ∧ Rep B F m d x) : WalkD B F m J ds :=
  w.mono (fun _ h => h) fun i H x H' hi hG y => by
    obtain ⟨e, d, hd, r⟩ := hy i H x H' hi hG y
    subst e
    exact ⟨d, hd, fun R F1 m1 μ gr so => ⟨F1, Grow.refl _ _, so, Rep.mono gr _ _ r⟩⟩
theorem walkD_list {K : PySem.W.Frag} {B : Bk} {F : Hp} {m : List Addr} {a : Addr} {vs : List V} {ds : List D} (hs : SqL K F a vs) (r : RepL B F m ds vs) : WalkD B F m (Itl K a) ds := by
  have w : Walk (Itl K a) ds.length (fun H => Same F H) (YAt vs) := by
    rw [r.length]
    exact walk_list.mono (fun H h => h.seq hs) fun _ _ _ _ _ _ y => y
  refine walk_still w fun i H x H' hi hG y => ⟨y.1, ?_⟩
  exact r.get' i x y.2
theorem walkD_tup {K : PySem.W.Frag} {B : Bk} {F : Hp} {m : List Addr} {a : Addr} {vs : List V} {ds : List D} (hs : SqT K F a vs) (r : RepL B F m ds vs) : WalkD B F m (Itt K a) ds := by
  have w : Walk (Itt K a) ds.length (fun H => Same F H) (YAt vs) := by
    rw [r.length]
    exact walk_tup.mono (fun H h => seqT_mono h hs) fun _ _ _ _ _ _ y => y
  refine walk_still w fun i H x H' hi hG y => ⟨y.1, ?_⟩
  exact r.get' i x y.2
theorem walkD_str {B : Bk} {F : Hp} {m : List Addr} {z : Str} : WalkD B F m (Its z) (z.cps.toList.map fun c => D.str ⟨#[c]⟩) := by
  have w : Walk (Its z) (z.cps.toList.map fun c => D.str ⟨#[c]⟩).length (fun H => Same F H) (fun i H v H' => H' = H ∧ ∃ c, z.cps[i]? = some c ∧ v = .str ⟨#[c]⟩) := by
    rw [List.length_map, Array.length_toList]
    exact walk_str.mono (fun _ _ => trivial) fun _ _ _ _ _ _ y => y
  refine walk_still w fun i H x H' hi hG y => ⟨y.1, ?_⟩
  obtain ⟨_, c, e, rfl⟩ := y
  refine ⟨.str ⟨#[c]⟩, ?_, rfl⟩
  rw [List.getElem?_map, Array.getElem?_toList, e]
  rfl
theorem rngD_len (lo : Int) : ∀ n : Nat, (rngD lo n).length = n
  | 0 => rfl
  | n + 1 => by
    show (rngD (lo + 1) n).length + 1 = n + 1
    rw [rngD_len (lo + 1) n]
theorem rngD_get : ∀ (n : Nat) (lo : Int) (i : Nat), i < n → (rngD lo n)[i]? = some (.int (lo + i))
  | 0, _, _, h => absurd h (Nat.not_lt_zero _)
  | n + 1, lo, 0, _ => by
    show some (D.int lo) = some (D.int (lo + 0))
    rw [Int.add_zero]
  | n + 1, lo, i + 1, h => by
    show (rngD (lo + 1) n)[i]? = _
    rw [rngD_get n (lo + 1) i (by omega)]
    have e : lo + 1 + (i : Int) = lo + ((i + 1 : Nat) : Int) := by omega
    rw [e]
theorem walkD_rng {B : Bk} {F : Hp} {m : List Addr} {lo : Int} {n : Nat} : WalkD B F m (Itr lo n) (rngD lo n) := by
  have w : Walk (Itr lo n) (rngD lo n).length (fun H => Same F H) (YFn fun i => .int (lo + i)) := by
    rw [rngD_len]
    exact walk_range.mono (fun _ _ => trivial) fun _ _ _ _ _ _ y => y
  refine walk_still w fun i H x H' hi hG y => ⟨y.1, ?_⟩
  rw [rngD_len] at hi
  exact ⟨_, rngD_get n lo i hi, y.2⟩
/-- whatever is walked by its value: a list, a tuple, a text -/
theorem ji_val (cx : CxOk g ct W X) {e : Expr} {ie : E} (he : JE g W X e (evalE T ie)) : JI g W X e (evalI T (.val ie)) := by
  intro tg ρ μ r h R F m σ H G so ro po
  simp only [evalI] at h
  -- the value decides which walk it is
  cases ev : evalE T ie ρ μ with
  | none =>
    unfold bd at h
    rw [ev] at h
    cases h
  | some ra =>
    obtain ⟨r1, μ1⟩ := ra
    cases r1 with
    | error x =>
      have e2 : r = (.error x, μ1) := by
        unfold bd at h
        rw [ev] at h
        exact (Option.some.inj h).symm
      subst e2
      refine SI.of (pi_list (pe_se X e)) ?_
      exact he ρ μ _ ev R F m σ H _ so ro (show Post g.B R W σ F m (Except.error x, μ1) _ from po)
    | ok d =>
      have h1 : up (itemsD d) μ1 = some r := by
        unfold bd at h
        rw [ev] at h
        exact h
      obtain ⟨ds, e1, rfl⟩ := up_some h1
      cases d with
      | lst xs =>
        have e1 := Option.some.inj e1
        subst e1
        refine SI.of (pi_list (pe_se X e)) ?_
        refine he ρ μ _ ev R F m σ H _ so ro fun F1 m1 H1 gr1 so1 v rv => ?_
        obtain ⟨a, vs, rfl, hs, rr⟩ := rv
        exact ⟨a, rfl, ⟨vs, SqL.of (so1.sub _ _ hs)⟩, po F1 m1 H1 gr1 so1 _ (walkD_list (SqL.of hs) rr)⟩
      | tup xs =>
        have e1 := Option.some.inj e1
        subst e1
        refine SI.of (pi_tup (pe_se X e)) ?_
        refine he ρ μ _ ev R F m σ H _ so ro fun F1 m1 H1 gr1 so1 v rv => ?_
        obtain ⟨a, vs, rfl, hs, rr⟩ := rv
        have hs' : SqT X.K F1 a vs := by
          rw [cx.K]
          exact hs
        exact ⟨a, rfl, ⟨vs, seqT_mono so1.sub hs'⟩, po F1 m1 H1 gr1 so1 _ (walkD_tup hs' rr)⟩
      | str z =>
        have e1 := Option.some.inj e1
        subst e1
        refine SI.of (pi_str (pe_se X e)) ?_
        refine he ρ μ _ ev R F m σ H _ so ro fun F1 m1 H1 gr1 so1 v rv => ?_
        have rv : v = .str z := rv
        subst rv
        exact ⟨z, rfl, po F1 m1 H1 gr1 so1 _ walkD_str⟩
      | _ => cases e1
theorem ji_rng1 (cx : CxOk g ct W X) (fo : FnsOk g T ct.fns ct.cons) {n : Str} {y : Expr} {a : E} {p pos : Pos} (hg : chkG ct n = true) (hn : n = "range") (hs : notStar y = true) (ha : JE g W X y (evalE T a)) : JI g W X (.Call (.Name n p) [y] [] pos) (evalI T (.rng1 a)) := by
  intro tg ρ μ r h R F m σ H G so ro po
  obtain ⟨g1, g2⟩ := chkG_of cx hg
  subst hn
  have hmg : X.mg "range" = none := by
    rw [cx.mg]
    exact fo.blt _ (by decide +kernel)
  simp only [evalI] at h
  refine SI.of (pi_range1 g1 hmg (pa_cons (pe_se X y) pa_nil (star_cons hs _ _)) (star_cons hs _ _)) ?_
  obtain ⟨ra, ea, pa⟩ := bd_post h po (Ka := QE g fun v H1 => ∃ j : Int, [v] = [V.int j] ∧ -(2 ^ 62) ≤ j ∧ j < 2 ^ 62 ∧ G (Itr 0 j.toNat) H1) fun d μ1 e1 h1 F1 m1 H1 gr1 so1 v rv => by
    split at h1
    · rename_i j
      have rv : v = .int j := rv
      subst rv
      split at h1
      · rename_i hr
        obtain ⟨b1, b2⟩ := of_decide_eq_true hr
        have e := rt_some h1
        subst e
        exact ⟨j, rfl, b1, b2, po F1 m1 H1 gr1 so1 _ walkD_rng⟩
      · cases h1
    · cases h1
  exact ha ρ μ ra ea R F m σ H _ so ro pa
theorem ji_rng2 (cx : CxOk g ct W X) (fo : FnsOk g T ct.fns ct.cons) {n : Str} {y z : Expr} {a b : E} {p pos : Pos} (hg : chkG ct n = true) (hn : n = "range") (hs : notStar y = true) (hz : notStar z = true) (ha : JE g W X y (evalE T a)) (hb : JE g W X z (evalE T b)) :
    JI g W X (.Call (.Name n p) [y, z] [] pos) (evalI T (.rng2 a b)) := by
  intro tg ρ μ r h R F m σ H G so ro po
  obtain ⟨g1, g2⟩ := chkG_of cx hg
  subst hn
  have hmg : X.mg "range" = none := by
    rw [cx.mg]
    exact fo.blt _ (by decide +kernel)
  simp only [evalI] at h
  refine SI.of (pi_range2 g1 hmg (pa_cons (pe_se X y) (pa_cons (pe_se X z) pa_nil (star_cons hz _ _)) (star_cons hs _ _)) (by rw [star_cons hs, star_cons hz]; rfl) (star_cons hz _ _)) ?_
  obtain ⟨ra, ea, pa⟩ := bd_post h po (Ka := QE g fun v H1 => SE X z σ H1 fun u H2 => ∃ i j : Int, [v, u] = [V.int i, V.int j] ∧ (-(2 ^ 62) ≤ i ∧ i < 2 ^ 62 ∧ -(2 ^ 62) ≤ j ∧ j < 2 ^ 62) ∧ G (Itr i (j - i).toNat) H2) fun d μ1 e1 h1 F1 m1 H1 gr1 so1 v rv => by
    obtain ⟨rb, eb, pb⟩ := bd_post h1 (po.grow gr1) (Ka := QE g fun u H2 => ∃ i j : Int, [v, u] = [V.int i, V.int j] ∧ (-(2 ^ 62) ≤ i ∧ i < 2 ^ 62 ∧ -(2 ^ 62) ≤ j ∧ j < 2 ^ 62) ∧ G (Itr i (j - i).toNat) H2) fun d2 μ2 e2 h2 F2 m2 H2 gr2 so2 u ru => by
      split at h2
      · rename_i i j
        have rv : v = .int i := rv
        have ru : u = .int j := ru
        subst rv ru
        split at h2
        · rename_i hr
          rw [Bool.and_eq_true] at hr
          obtain ⟨b1, b2⟩ := of_decide_eq_true hr.1
          obtain ⟨b3, b4⟩ := of_decide_eq_true hr.2
          have e := rt_some h2
          subst e
          exact ⟨i, j, rfl, ⟨b1, b2, b3, b4⟩, po F2 m2 H2 (gr1.trans gr2) so2 _ walkD_rng⟩
        · cases h2
      · cases h2
    exact hb ρ μ1 rb eb R F1 m1 σ H1 _ so1 (ro.mono gr1) pb
  exact ha ρ μ ra ea R F m σ H _ so ro pa

/-! ### comprehensions -/
/-- the blocks of a comprehension -/
def Blk (X : Cx) (scope : Scope) (X' : Cx) : Prop := ∃ (s : Shared) (H : Hp) (C : Addr) (cl : List (Str × Addr)) (fp : List Addr), X' = X.blk s H scope (compEnvC scope cl C X.env) fp
theorem Blk.ok {scope : Scope} {X' : Cx} (cx : CxOk g ct W X) (h : Blk X scope X') : CxOk g (ct.blk scope) (fun _ _ _ _ => False) X' := by
  obtain ⟨s, H, C, cl, fp, rfl⟩ := h
  refine ⟨cx.prog, cx.w, cx.K, cx.mg, cx.base, cx.N, ?_, cx.nd, cx.calm, cx.room, cx.gu, fun x h => h, PassesOwn.never, takes0⟩
  show relS scope X.env.scope = relS scope ct.sc
  rw [cx.sc]
theorem bd_ok {α β : Type} {x : M α} {k : α → M β} {μ μ' : Store} {z : β} (h : bd x k μ = some (.ok z, μ')) : ∃ a μ1, x μ = some (.ok a, μ1) ∧ k a μ1 = some (.ok z, μ') := by
  unfold bd at h
  cases e : x μ with
  | none =>
    rw [e] at h
    cases h
  | some r =>
    obtain ⟨r1, μ1⟩ := r
    rw [e] at h
    cases r1 with
    | error _ => cases h
    | ok a => exact ⟨a, μ1, rfl, h⟩
theorem lcM_cons {b : D → Option Rho} {f : Rho → M Bool} {e : Rho → M D} {x : D} {r : List D} {μ : Store} {ys : List D} {μ' : Store} (h : lcM b f e (x :: r) μ = some (.ok ys, μ')) :
    ∃ ρ k μ1, b x = some ρ ∧ f ρ μ = some (.ok k, μ1) ∧ (if k = true then ∃ y μ2 zs, e ρ μ1 = some (.ok y, μ2) ∧ lcM b f e r μ2 = some (.ok zs, μ') ∧ ys = y :: zs else lcM b f e r μ1 = some (.ok ys, μ')) := by
  simp only [lcM] at h
  cases eb : b x with
  | none =>
    rw [eb] at h
    cases h
  | some ρ =>
    rw [eb] at h
    have h : bd (f ρ) (fun c => if c then bd (e ρ) fun y => bd (lcM b f e r) fun ys => rt (y :: ys) else lcM b f e r) μ = some (.ok ys, μ') := h
    obtain ⟨k, μ1, h1, h⟩ := bd_ok h
    refine ⟨ρ, k, μ1, rfl, h1, ?_⟩
    cases k with
    | false => exact h
    | true =>
      have h : bd (e ρ) (fun y => bd (lcM b f e r) fun ys => rt (y :: ys)) μ1 = some (.ok ys, μ') := h
      obtain ⟨y, μ2, h2, h⟩ := bd_ok h
      obtain ⟨zs, μ3, h3, h⟩ := bd_ok h
      have h := Option.some.inj h
      have q1 := Except.ok.inj (Prod.mk.inj h).1
      have q2 := (Prod.mk.inj h).2
      subst q1 q2
      exact ⟨y, μ2, zs, h2, h3, rfl⟩
theorem set_of {i : Expr} {env : Env} (h : notSet i = true) : ∀ x, foldedSetIterable i env x = pure x := by
  intro x
  cases i <;> first | rfl | cases h
theorem lcM_le {b : D → Option Rho} {f : Rho → M Bool} {e : Rho → M D} : ∀ {ds : List D} {μ : Store} {ys : List D} {μ' : Store}, lcM b f e ds μ = some (.ok ys, μ') → ys.length ≤ ds.length
  | [], μ, ys, μ', h => by
    have h := Option.some.inj h
    have h1 := Except.ok.inj (Prod.mk.inj h).1
    subst h1
    exact Nat.le_refl _
  | x :: r, μ, ys, μ', h => by
    obtain ⟨ρ, k, μ1, _, _, h3⟩ := lcM_cons h
    cases k with
    | true =>
      rw [if_pos rfl] at h3
      obtain ⟨y, μ2, zs, _, h5, rfl⟩ := h3
      have := lcM_le h5
      simp only [List.length_cons]
      omega
    | false =>
      rw [if_neg Bool.false_ne_true] at h3
      have := lcM_le h3
      simp only [List.length_cons]
      omega
/-- the readings of a comprehension's parts, in all its blocks -/
def gB (X : Cx) (scope : Scope) (t : Expr) : TG := fun v σ H Q => ∀ X', Blk X scope X' → SG X' t v σ H Q
def tB' (X : Cx) (scope : Scope) (cs : List Expr) : TT := fun σ H Q => ∀ X', Blk X scope X' → STs X' cs σ H Q
def eB (X : Cx) (scope : Scope) (y : Expr) : TE := fun σ H Q => ∀ X', Blk X scope X' → SE X' y σ H Q
theorem lc_read (cx : CxOk g ct W X) {y t i : Expr} {cs : List Expr} {scope : Scope} {vs : List Nat} {tg : Tg} {it : I} {ifs : List B} {elt : E} (hsl : ∀ j ∈ tg.slots, j ∈ vs) (hi : JI g W X i (evalI T it)) (ht : chkTg (ct.blk scope) tg t = true) (hcs : ∀ X', Blk X scope X' → JTs g (fun _ _ _ _ => False) X' cs (evalTs T ifs)) (he : ∀ X', Blk X scope X' → JE g (fun _ _ _ _ => False) X' y (evalE T elt))
    {ρ : Rho} {μ : Store} {r : Except Exc D × Store} (h : evalE T (.lc vs tg it ifs elt) ρ μ = some r) {R F : Hp} {m : List Addr} {σ : St} {H : Hp} {Q : VK} (so : SOk g.B R F m μ H) (ro : ROk g.B F m ρ σ) (po : Post g.B R W σ F m r (QE g Q)) :
    tLc (SI X t i) (gB X scope t) (tB' X scope cs) (eB X scope y) vs σ H Q := by
  simp only [evalE] at h
  obtain ⟨ri, ei, pi⟩ := bd_post h po (Ka := fun F1 m1 H1 ds => ∀ J, WalkD g.B F1 m1 J ds → ∀ L0, H1 L0 = none → ∃ W : Nat → Nat → Hp → Prop, (∃ m, W 0 m (upd H1 L0 (.lst []))) ∧ ∀ i m H, W i m H →
      (J.stop i H ∧ Q (.ref L0) H) ∨ (J.go i H ∧ ∃ Nx : Hp → Prop, (∀ H', Nx H' → ∃ m', m' < m ∧ W (i + 1) m' H') ∧ ∀ x H', J.yld i H x H' → (∀ X', Blk X scope X' → SG X' t x (L2.wipe σ vs) H' fun σ2 H2 => L2.wipe σ2 vs = L2.wipe σ vs ∧ (∀ X', Blk X scope X' → STs X' cs σ2 H2 fun b H3 =>
        if b = true then (∀ X', Blk X scope X' → SE X' y σ2 H3 fun y H4 => ∃ acc, H4 L0 = some (.lst acc) ∧ acc.length < sizeLine ∧ Nx (upd H4 L0 (.lst (acc ++ [y])))) else Nx H3)))) fun ds μ1 e1 h1 F1 m1 H1 gr1 so1 J wk L0 hD => by
    have ro1 := ro.mono gr1
    have po1 := po.grow gr1
    -- what the turns make
    obtain ⟨ys, μ2, hM, hlen, er⟩ : ∃ ys μ2, lcM (fun d => bindT tg d (wipeR ρ vs)) (fun ρ' => evalTs T ifs ρ') (fun ρ' => evalE T elt ρ') ds μ1 = some (.ok ys, μ2) ∧ ys.length ≤ sizeLine ∧ r = (.ok (.lst ys), μ2) := by
      unfold bd sure at h1
      cases e : lcM (fun d => bindT tg d (wipeR ρ vs)) (fun ρ' => evalTs T ifs ρ') (fun ρ' => evalE T elt ρ') ds μ1 with
      | none =>
        rw [e] at h1
        cases h1
      | some rl =>
        obtain ⟨r1, μ2⟩ := rl
        rw [e] at h1
        cases r1 with
        | error _ => cases h1
        | ok ys =>
          have h1 : (if ys.length ≤ sizeLine then rt (D.lst ys) else up none) μ2 = some r := h1
          by_cases hl : ys.length ≤ sizeLine
          · rw [if_pos hl] at h1
            exact ⟨ys, μ2, rfl, hl, rt_some h1⟩
          · rw [if_neg hl] at h1
            cases h1
    subst er
    have RD : R L0 = none := by
      cases q : R L0 with
      | none => rfl
      | some o =>
        have := so1.fr L0 o q
        rw [hD] at this
        cases this
    refine lc_it wk (g := gB X scope t) (tt := tB' X scope cs) (te := eB X scope y) (vs := vs) (σ := σ) (H1 := H1) (D := L0) (Qd := fun H => Q (.ref L0) H) (fun n Hn => ∃ F2 m2 μn done rest acc, Grow F1 m1 F2 m2 ∧ SOk g.B (upd R L0 (.lst acc)) F2 m2 μn Hn ∧ RepL g.B F2 m2 done acc ∧ ys = done ++ rest ∧
      lcM (fun d => bindT tg d (wipeR ρ vs)) (fun ρ' => evalTs T ifs ρ') (fun ρ' => evalE T elt ρ') (ds.drop n) μn = some (.ok rest, μ2)) ?_ ?_ ?_ ?_
    · exact ⟨F1, m1, μ1, [], ys, [], Grow.refl _ _, so1.hold hD, rfl, rfl, hM⟩
    · rintro n Hn _ ⟨F2, m2, μn, done, rest, acc, gr2, so2, _⟩
      exact gr2.sub.trans so2.sub
    · rintro n x Hn Hx hn ⟨F2, m2, μn, done, rest, acc, gr2, so2, rd, ey, hR⟩ ⟨d, hd, yl⟩
      obtain ⟨F3, gr3, so3, rx⟩ := yl _ F2 m2 μn gr2 so2
      have edrop : ds.drop n = d :: ds.drop (n + 1) := by
        obtain ⟨hl, e⟩ := List.getElem?_eq_some_iff.mp hd
        rw [← e]
        exact List.drop_eq_getElem_cons hl
      rw [edrop] at hR
      obtain ⟨ρ', k, μ3, b1, b2, b3⟩ := lcM_cons hR
      intro X' bx
      have cx' := Blk.ok cx bx
      have row : ROk g.B F3 m2 (wipeR ρ vs) (L2.wipe σ vs) := ((ro1.mono gr2).mono gr3).wipe vs
      refine tg_ok cx' tg t ht d (wipeR ρ vs) ρ' b1 _ F3 m2 μn _ Hx x _ so3 row rx fun σ2 ro2 wp => ⟨?_, fun X2 bx2 => ?_⟩
      · rw [wp vs hsl]
        apply List.ext_getElem?
        intro j
        rw [wipe_get, wipe_get]
        split
        · cases σ[j]? <;> rfl
        · rfl
      · refine hcs X2 bx2 ρ' μn (.ok k, μ3) b2 _ F3 m2 σ2 Hx _ so3 ro2 fun F4 m4 H4 gr4 so4 => ?_
        cases k with
        | false =>
          rw [if_neg Bool.false_ne_true] at b3
          refine iteF ?_
          exact ⟨F4, m4, μ3, done, rest, acc, (gr2.trans gr3).trans gr4, so4, RepL.mono (gr3.trans gr4) _ _ rd, ey, b3⟩
        | true =>
          rw [if_pos rfl] at b3
          refine iteT fun X3 bx3 => ?_
          obtain ⟨z, μ4, zs, c1, c2, c3⟩ := b3
          refine he X3 bx3 ρ' μ3 (.ok z, μ4) c1 _ F4 m4 σ2 H4 _ so4 (ro2.mono gr4) fun F5 m5 H5 gr5 so5 v rv => ?_
          have rd' := RepL.mono ((gr3.trans gr4).trans gr5) _ _ rd
          refine ⟨acc, so5.fr L0 _ upd_same, ?_, F5, m5, μ4, done ++ [z], zs, acc ++ [v], ((gr2.trans gr3).trans gr4).trans gr5, so5.turn, rd'.append (RepL.one rv), ?_, c2⟩
          · rw [← rd'.length]
            rw [ey, c3, List.length_append, List.length_cons] at hlen
            omega
          · rw [ey, c3, List.append_assoc]
            rfl
    · rintro Hn ⟨F2, m2, μn, done, rest, acc, gr2, so2, rd, ey, hR⟩
      rw [List.drop_length] at hR
      have hR := Option.some.inj hR
      have q1 := Except.ok.inj (Prod.mk.inj hR).1
      have q2 := (Prod.mk.inj hR).2
      subst q1 q2
      rw [List.append_nil] at ey
      subst ey
      obtain ⟨gr3, so3⟩ := so2.give RD
      exact po1 _ m2 Hn (gr2.trans gr3) so3 _ ⟨L0, acc, rfl, upd_same, RepL.mono gr3 _ _ rd⟩
  exact hi t ρ μ ri ei R F m σ H _ so ro pi
theorem lc_pe (cx : CxOk g ct W X) {y t i : Expr} {cs : List Expr} {scope : Scope} {vs : List Nat} (hbl : blkC ct.N ct.sc scope (vs.map fun v => (ct.N.getD v "", v)) = true) :
    BlkOk X.N X.env.scope scope (vs.map fun v => (ct.N.getD v "", v)) ∧ (vs.map fun v => (ct.N.getD v "", v)).map (·.2) = vs := by
  refine ⟨?_, ?_⟩
  · rw [cx.N, cx.sc]
    exact blkOk_by hbl
  · rw [List.map_map]
    exact List.map_id'' (fun _ => rfl) vs
theorem lc_pg {scope : Scope} {t : Expr} : ∀ (s : Shared) (H : Hp) (C : Addr) (cl : List (Str × Addr)) (fp : List Addr), PG (X.blk s H scope (compEnvC scope cl C X.env) fp) t (gB X scope t) :=
  fun s H C cl fp => ⟨fun pins s' σ H v u Q I r h => h _ ⟨s, _, C, cl, fp, rfl⟩ pins s' u I r⟩
theorem lc_pt {scope : Scope} {cs : List Expr} : ∀ (s : Shared) (H : Hp) (C : Addr) (cl : List (Str × Addr)) (fp : List Addr), PTs (X.blk s H scope (compEnvC scope cl C X.env) fp) cs (tB' X scope cs) :=
  fun s H C cl fp => ⟨fun pins s' σ H Q I h => h _ ⟨s, _, C, cl, fp, rfl⟩ pins s' I⟩
theorem lc_el {scope : Scope} {y : Expr} : ∀ (s : Shared) (H : Hp) (C : Addr) (cl : List (Str × Addr)) (fp : List Addr), PE (X.blk s H scope (compEnvC scope cl C X.env) fp) y (eB X scope y) :=
  fun s H C cl fp => ⟨fun pins s' σ H Q I h => h _ ⟨s, _, C, cl, fp, rfl⟩ pins s' I⟩
theorem je_lc (cx : CxOk g ct W X) {y t i : Expr} {cs : List Expr} {scope : Scope} {pos : Pos} {vs : List Nat} {tg : Tg} {it : I} {ifs : List B} {elt : E} (hns : notSet i = true) (hbl : blkC ct.N ct.sc scope (vs.map fun v => (ct.N.getD v "", v)) = true)
    (hsl : ∀ j ∈ tg.slots, j ∈ vs) (hi : JI g W X i (evalI T it)) (ht : chkTg (ct.blk scope) tg t = true) (hcs : ∀ X', Blk X scope X' → JTs g (fun _ _ _ _ => False) X' cs (evalTs T ifs)) (he : ∀ X', Blk X scope X' → JE g (fun _ _ _ _ => False) X' y (evalE T elt)) :
    JE g W X (.ListComp y [⟨t, i, cs, 0⟩] scope pos) (evalE T (.lc vs tg it ifs elt)) := by
  intro ρ μ r h R F m σ H Q so ro po
  obtain ⟨bok, evs⟩ := lc_pe cx (y := y) (t := t) (i := i) (cs := cs) hbl
  refine SE.of (pe_lc cx.calm (by rw [cx.N]; exact cx.nd) (pi_si X t i) bok lc_pg lc_pt lc_el (set_of hns)) ?_
  rw [evs]
  exact lc_read cx hsl hi ht hcs he h so ro po
end
end Sg
/-! Sg9: the theorem of expressions. -/
namespace Sg
open PySem L2
def isBO : Expr → Bool
  | .BoolOp _ _ _ => true
  | _ => false
mutual
theorem sE {g : Gx} {T : Tab} : ∀ (ir : E) (ct : CT) (W : WX) (X : Cx) (e : Expr), FnsOk g T ct.fns ct.cons → CxOk g ct W X → chkE ct ir e = true → JE g W X e (evalE T ir)
  | .non, ct, W, X, e, fo, cx, h => by
    simp only [chkE] at h
    split at h
    · exact je_c (d := .non) pe_non (fun ρ => by simp only [evalE]) fun _ _ => rfl
    · cases h
  | .bl b, ct, W, X, e, fo, cx, h => by
    simp only [chkE] at h
    split at h
    · have h := eq_of_beq h
      subst h
      exact je_c (d := .bl b) pe_bl (fun ρ => by simp only [evalE]) fun _ _ => rfl
    · cases h
  | .int i, ct, W, X, e, fo, cx, h => by
    simp only [chkE] at h
    split at h
    · have h := eq_of_beq h
      subst h
      exact je_c (d := .int i) pe_int (fun ρ => by simp only [evalE]) fun _ _ => rfl
    · cases h
  | .str x, ct, W, X, e, fo, cx, h => by
    simp only [chkE] at h
    split at h
    · have h := of_decide_eq_true h
      subst h
      exact je_c (d := .str x) pe_str (fun ρ => by simp only [evalE]) fun _ _ => rfl
    · cases h
  | .var i, ct, W, X, e, fo, cx, h => by
    simp only [chkE] at h
    split at h
    · exact je_var cx h
    · cases h
  | .raw i, ct, W, X, e, fo, cx, h => by
    simp only [chkE] at h
    split at h
    · exact je_raw cx h
    · cases h
  | .gcon i, ct, W, X, e, fo, cx, h => by
    simp only [chkE] at h
    split at h
    · rw [Bool.and_eq_true] at h
      exact je_gcon cx fo h.1 (of_decide_eq_true h.2)
    · cases h
  | .bin op a b, ct, W, X, e, fo, cx, h => by
    simp only [chkE] at h
    split at h
    · simp only [Bool.and_eq_true, decide_eq_true_eq] at h
      obtain ⟨⟨rfl, h1⟩, h2⟩ := h
      exact je_bin cx (sE a ct W X _ fo cx h1) (sE b ct W X _ fo cx h2)
    · cases h
  | .neg a, ct, W, X, e, fo, cx, h => by
    simp only [chkE] at h
    split at h
    · exact je_neg cx (sE a ct W X _ fo cx h)
    · cases h
  | .cmp op a b, ct, W, X, e, fo, cx, h => by
    simp only [chkE] at h
    split at h
    · simp only [Bool.and_eq_true, decide_eq_true_eq] at h
      obtain ⟨⟨⟨rfl, h0⟩, h1⟩, h2⟩ := h
      exact je_cmp cx h0 (sE a ct W X _ fo cx h1) (sE b ct W X _ fo cx h2)
    · cases h
  | .chain op op' a b c, ct, W, X, e, fo, cx, h => by
    simp only [chkE] at h
    split at h
    · simp only [Bool.and_eq_true, decide_eq_true_eq] at h
      obtain ⟨⟨⟨⟨⟨rfl, rfl⟩, h0⟩, h1⟩, h2⟩, h3⟩ := h
      exact je_chain cx h0 (sE a ct W X _ fo cx h1) (sE b ct W X _ fo cx h2) (sE c ct W X _ fo cx h3)
    · cases h
  | .and a b, ct, W, X, e, fo, cx, h => by
    simp only [chkE] at h
    split at h
    · rename_i x y rest pos
      rw [Bool.and_eq_true] at h
      obtain ⟨h1, h2⟩ := h
      refine je_and (sE a ct W X _ fo cx h1) ?_
      cases rest with
      | nil => exact je_one (sE b ct W X _ fo cx h2)
      | cons z zs => exact sE b ct W X _ fo cx h2
    · cases h
  | .or a b, ct, W, X, e, fo, cx, h => by
    simp only [chkE] at h
    split at h
    · rename_i x y rest pos
      rw [Bool.and_eq_true] at h
      obtain ⟨h1, h2⟩ := h
      refine je_or (sE a ct W X _ fo cx h1) ?_
      cases rest with
      | nil => exact je_one (sE b ct W X _ fo cx h2)
      | cons z zs => exact sE b ct W X _ fo cx h2
    · cases h
  | .not a, ct, W, X, e, fo, cx, h => by
    simp only [chkE] at h
    split at h
    · exact je_not (sE a ct W X _ fo cx h)
    · cases h
  | .ite c a b, ct, W, X, e, fo, cx, h => by
    simp only [chkE] at h
    split at h
    · simp only [Bool.and_eq_true] at h
      exact je_ite (sB c ct W X _ fo cx h.1.1).1 (sE a ct W X _ fo cx h.1.2) (sE b ct W X _ fo cx h.2)
    · cases h
  | .tup es, ct, W, X, e, fo, cx, h => by
    simp only [chkE] at h
    split at h
    · exact je_tup (sL es ct W X _ fo cx h)
    · cases h
  | .lst es, ct, W, X, e, fo, cx, h => by
    simp only [chkE] at h
    split at h
    · exact je_lst (sL es ct W X _ fo cx h)
    · cases h
  | .emp, ct, W, X, e, fo, cx, h => by
    simp only [chkE] at h
    split at h
    · exact je_emp
    · cases h
  | .call f es, ct, W, X, e, fo, cx, h => by
    simp only [chkE] at h
    split at h
    · simp only [Bool.and_eq_true, decide_eq_true_eq] at h
      exact je_call cx fo h.1.1 h.1.2 h.2 (sL es ct W X _ fo cx h.2)
    · cases h
  | .blt b es, ct, W, X, e, fo, cx, h => by
    simp only [chkE] at h
    split at h
    · simp only [Bool.and_eq_true, decide_eq_true_eq, Bool.not_eq_true'] at h
      exact je_blt cx fo h.1.1.1 h.1.1.2 h.1.2 h.2 (sL es ct W X _ fo cx h.2)
    · cases h
  | .isi a t, ct, W, X, e, fo, cx, h => by
    simp only [chkE] at h
    split at h
    · cases t with
      | own c =>
        simp only [Bool.and_false, Bool.false_and, Bool.false_eq_true] at h
      | ty s =>
        simp only [Bool.and_eq_true, decide_eq_true_eq] at h
        obtain ⟨⟨⟨⟨⟨h1, h2⟩, h3⟩, h4, h5⟩, h7⟩, h6⟩ := h
        exact je_isi cx fo h1 h2 h3 h4 h5 h7 (sE a ct W X _ fo cx h6)
    · cases h
  | .mth m o es, ct, W, X, e, fo, cx, h => by
    simp only [chkE] at h
    split at h
    · simp only [Bool.and_eq_true, decide_eq_true_eq] at h
      obtain ⟨⟨⟨⟨⟨h1, h2⟩, h3⟩, h4⟩, h5⟩, h6⟩ := h
      exact je_mth cx h1 h2 h3 h5 h6 (sE o ct W X _ fo cx h4) (sL es ct W X _ fo cx h5)
    · cases h
  | .sub o i, ct, W, X, e, fo, cx, h => by
    simp only [chkE] at h
    split at h
    · simp only [Bool.and_eq_true] at h
      exact je_sub cx h.1.1 (sE o ct W X _ fo cx h.1.2) (sE i ct W X _ fo cx h.2)
    · cases h
  | .slc o lo hi, ct, W, X, e, fo, cx, h => by
    simp only [chkE] at h
    split at h
    · simp only [Bool.and_eq_true] at h
      exact je_slc cx (sE o ct W X _ fo cx h.1.1) (sO lo ct W X _ fo cx h.1.2) (sO hi ct W X _ fo cx h.2)
    · cases h
  | .lc vs tg it ifs elt, ct, W, X, e, fo, cx, h => by
    simp only [chkE] at h
    split at h
    · rename_i scope _
      simp only [Bool.and_eq_true, decide_eq_true_eq, List.all_eq_true] at h
      obtain ⟨⟨⟨⟨⟨⟨⟨rfl, h1⟩, h2⟩, h3⟩, h4⟩, h5⟩, h6⟩, h7⟩ := h
      exact je_lc cx h1 h2 h3 (sI it ct W X _ fo cx h4) h5 (fun X' bx => sBs ifs (ct.blk scope) _ X' _ fo (Blk.ok cx bx) h6) (fun X' bx => sE elt (ct.blk scope) _ X' _ fo (Blk.ok cx bx) h7)
    · cases h
theorem sL {g : Gx} {T : Tab} : ∀ (irs : List E) (ct : CT) (W : WX) (X : Cx) (es : List Expr), FnsOk g T ct.fns ct.cons → CxOk g ct W X → chkL ct irs es = true → JA g W X es (evalL T irs)
  | [], ct, W, X, [], fo, cx, h => ja_nil
  | [], ct, W, X, _ :: _, fo, cx, h => by cases h
  | _ :: _, ct, W, X, [], fo, cx, h => by cases h
  | ir :: irs, ct, W, X, e :: es, fo, cx, h => by
    simp only [chkL, Bool.and_eq_true] at h
    exact ja_cons h.1.1 (sE ir ct W X _ fo cx h.1.2) (sL irs ct W X _ fo cx h.2)
theorem sO {g : Gx} {T : Tab} : ∀ (ir : Option E) (ct : CT) (W : WX) (X : Cx) (e : Option Expr), FnsOk g T ct.fns ct.cons → CxOk g ct W X → chkO ct ir e = true → JO g W X e (evalO T ir)
  | none, ct, W, X, none, fo, cx, h => jo_none
  | none, ct, W, X, some _, fo, cx, h => by cases h
  | some ir, ct, W, X, none, fo, cx, h => by cases h
  | some ir, ct, W, X, some e, fo, cx, h => by
    simp only [chkO] at h
    exact jo_some (sE ir ct W X _ fo cx h)
theorem sB {g : Gx} {T : Tab} : ∀ (ir : B) (ct : CT) (W : WX) (X : Cx) (e : Expr), FnsOk g T ct.fns ct.cons → CxOk g ct W X → chkB ct ir e = true → JT g W X e (evalT T ir) ∧ (isBO e = true → JW g W X e (evalT T ir))
  | .val ir, ct, W, X, e, fo, cx, h => by
    simp only [chkB, Bool.and_eq_true] at h
    refine ⟨jt_val cx h.1 (sE ir ct W X _ fo cx h.2), fun q => ?_⟩
    have hp := h.1
    cases e <;> first | (cases q; done) | (cases hp; done)
  | .cmp op a b, ct, W, X, e, fo, cx, h => by
    simp only [chkB] at h
    split at h
    · simp only [Bool.and_eq_true, decide_eq_true_eq] at h
      obtain ⟨⟨⟨rfl, h0⟩, h1⟩, h2⟩ := h
      exact ⟨jt_cmp cx h0 (sE a ct W X _ fo cx h1) (sE b ct W X _ fo cx h2), fun q => by cases q⟩
    · cases h
  | .chain op op' a b c, ct, W, X, e, fo, cx, h => by
    simp only [chkB] at h
    split at h
    · simp only [Bool.and_eq_true, decide_eq_true_eq] at h
      obtain ⟨⟨⟨⟨⟨rfl, rfl⟩, h0⟩, h1⟩, h2⟩, h3⟩ := h
      exact ⟨jt_chain cx h0 (sE a ct W X _ fo cx h1) (sE b ct W X _ fo cx h2) (sE c ct W X _ fo cx h3), fun q => by cases q⟩
    · cases h
  | .not a, ct, W, X, e, fo, cx, h => by
    simp only [chkB] at h
    split at h
    · exact ⟨jt_not (sB a ct W X _ fo cx h).1, fun q => by cases q⟩
    · cases h
  | .and a b, ct, W, X, e, fo, cx, h => by
    simp only [chkB] at h
    split at h
    · rename_i x y rest pos
      rw [Bool.and_eq_true] at h
      obtain ⟨h1, h2⟩ := h
      have q : JW g W X (.BoolOp .And (x :: y :: rest) pos) (evalT T (.and a b)) := by
        refine jw_and (sB a ct W X _ fo cx h1).1 ?_
        cases rest with
        | nil => exact jw_and1 (sB b ct W X _ fo cx h2).1
        | cons z zs => exact (sB b ct W X _ fo cx h2).2 rfl
      exact ⟨q.jt, fun _ => q⟩
    · cases h
  | .or a b, ct, W, X, e, fo, cx, h => by
    simp only [chkB] at h
    split at h
    · rename_i x y rest pos
      rw [Bool.and_eq_true] at h
      obtain ⟨h1, h2⟩ := h
      have q : JW g W X (.BoolOp .Or (x :: y :: rest) pos) (evalT T (.or a b)) := by
        refine jw_or (sB a ct W X _ fo cx h1).1 ?_
        cases rest with
        | nil => exact jw_or1 (sB b ct W X _ fo cx h2).1
        | cons z zs => exact (sB b ct W X _ fo cx h2).2 rfl
      exact ⟨q.jt, fun _ => q⟩
    · cases h
theorem sBs {g : Gx} {T : Tab} : ∀ (irs : List B) (ct : CT) (W : WX) (X : Cx) (es : List Expr), FnsOk g T ct.fns ct.cons → CxOk g ct W X → chkBs ct irs es = true → JTs g W X es (evalTs T irs)
  | [], ct, W, X, [], fo, cx, h => jts_nil
  | [], ct, W, X, _ :: _, fo, cx, h => by cases h
  | _ :: _, ct, W, X, [], fo, cx, h => by cases h
  | ir :: irs, ct, W, X, e :: es, fo, cx, h => by
    simp only [chkBs, Bool.and_eq_true, List.isEmpty_iff] at h
    obtain ⟨⟨h1, h2⟩, h3⟩ := h
    subst h2 h3
    exact jts_one (sB ir ct W X _ fo cx h1).1
theorem sI {g : Gx} {T : Tab} : ∀ (ir : I) (ct : CT) (W : WX) (X : Cx) (e : Expr), FnsOk g T ct.fns ct.cons → CxOk g ct W X → chkI ct ir e = true → JI g W X e (evalI T ir)
  | .val ir, ct, W, X, e, fo, cx, h => by
    simp only [chkI] at h
    exact ji_val cx (sE ir ct W X _ fo cx h)
  | .rng1 a, ct, W, X, e, fo, cx, h => by
    simp only [chkI] at h
    split at h
    · simp only [Bool.and_eq_true, decide_eq_true_eq] at h
      exact ji_rng1 cx fo h.1.1.1 h.1.1.2 h.1.2 (sE a ct W X _ fo cx h.2)
    · cases h
  | .rng2 a b, ct, W, X, e, fo, cx, h => by
    simp only [chkI] at h
    split at h
    · simp only [Bool.and_eq_true, decide_eq_true_eq] at h
      obtain ⟨⟨⟨⟨⟨h1, h2⟩, h3⟩, h4⟩, h5⟩, h6⟩ := h
      exact ji_rng2 cx fo h1 h2 h3 h4 (sE a ct W X _ fo cx h5) (sE b ct W X _ fo cx h6)
    · cases h
end
end Sg
/-! Sg10: statements. -/
namespace Sg
open PySem L2
def SS (X : Cx) (st : Stmt) : TS := fun D σ H => ∀ (pins : List (Addr × Obj)) (s : Shared), L2.Inv X pins σ H s → wpAny (model X.prog X.w) X.A (exec st X.env) (SP X pins D) X.xe s
theorem ps_ss (X : Cx) (st : Stmt) : PS X st (SS X st) := ⟨fun pins s σ H D I h => h pins s I⟩
theorem SS.of {X : Cx} {st : Stmt} {t : TS} {D : Ends} {σ : St} {H : Hp} (h : PS X st t) (q : t D σ H) : SS X st D σ H := fun pins s I => h.run pins s σ H D I q
def SSs (X : Cx) (st : List Stmt) : TS := fun D σ H => ∀ (pins : List (Addr × Obj)) (s : Shared), L2.Inv X pins σ H s → wpAny (model X.prog X.w) X.A (execs st X.env) (SP X pins D) X.xe s
theorem pss_sss (X : Cx) (st : List Stmt) : PSs X st (SSs X st) := ⟨fun pins s σ H D I h => h pins s I⟩
theorem SSs.of {X : Cx} {st : List Stmt} {t : TS} {D : Ends} {σ : St} {H : Hp} (h : PSs X st t) (q : t D σ H) : SSs X st D σ H := fun pins s I => h.run pins s σ H D I q
/-- what follows a statement -/
def PostS (g : Gx) (R : Hp) (W : WX) (F : Hp) (m : List Addr) (r : Fl × Rho × Store) (D : Ends) : Prop := ∀ F' m' σ' H', Grow F m F' m' → SOk g.B R F' m' r.2.2 H' → ROk g.B F' m' r.2.1 σ' → match r.1 with
  | .next => D.nx σ' H'
  | .brk => D.bk σ' H'
  | .cont => D.ct σ' H'
  | .ret d => ∀ v, Rep g.B F' m' d v → D.rt v H'
  | .exc x => ∀ cls dx, RepX g.B F' m' x cls dx → W cls dx σ' H'
def JS (g : Gx) (W : WX) (X : Cx) (st : Stmt) (f : Rho → Store → Option (Fl × Rho × Store)) : Prop := ∀ ρ μ r, f ρ μ = some r → ∀ R F m σ H (D : Ends), SOk g.B R F m μ H → ROk g.B F m ρ σ → PostS g R W F m r D → SS X st D σ H
def JSs (g : Gx) (W : WX) (X : Cx) (st : List Stmt) (f : Rho → Store → Option (Fl × Rho × Store)) : Prop := ∀ ρ μ r, f ρ μ = some r → ∀ R F m σ H (D : Ends), SOk g.B R F m μ H → ROk g.B F m ρ σ → PostS g R W F m r D → SSs X st D σ H
section
variable {g : Gx} {ct : CT} {W : WX} {X : Cx} {T : Tab}
theorem PostS.grow {R F F1 : Hp} {m m1 : List Addr} {r : Fl × Rho × Store} {D : Ends} (h : PostS g R W F m r D) (gr : Grow F m F1 m1) : PostS g R W F1 m1 r D := fun F' m' σ' H' g' => h F' m' σ' H' (gr.trans g')
theorem andS_post {α : Type} {x : M α} {ρ : Rho} {k : α → Store → Option (Fl × Rho × Store)} {μ : Store} {r : Fl × Rho × Store} {R F : Hp} {m : List Addr} {σ : St} {D : Ends} {Ka : Hp → List Addr → Hp → α → Prop}
    (h : andS x ρ k μ = some r) (ro : ROk g.B F m ρ σ) (po : PostS g R W F m r D) (hk : ∀ a μ1, x μ = some (.ok a, μ1) → k a μ1 = some r → ∀ F1 m1 H1, Grow F m F1 m1 → SOk g.B R F1 m1 μ1 H1 → Ka F1 m1 H1 a) :
    ∃ ra, x μ = some ra ∧ Post g.B R W σ F m ra Ka := by
  unfold andS at h
  cases e : x μ with
  | none =>
    rw [e] at h
    cases h
  | some ra =>
    rw [e] at h
    obtain ⟨r1, μ1⟩ := ra
    refine ⟨_, rfl, ?_⟩
    cases r1 with
    | ok a => exact fun F' m' H' gr so => hk a μ1 e h F' m' H' gr so
    | error z =>
      have h : some (Fl.exc z, ρ, μ1) = some r := h
      have h := Option.some.inj h
      subst h
      exact fun F' m' H' cls dx gr so rx => po F' m' σ H' gr so (ro.mono gr) cls dx rx

end
def notComp : Expr → Bool
  | .ListComp _ _ _ _ => false
  | .SetComp _ _ _ _ => false
  | .DictComp _ _ _ _ _ => false
  | _ => true
def isNm : Expr → Bool
  | .Name _ _ => true
  | _ => false
def notTup : Expr → Bool
  | .Tuple _ _ _ => false
  | _ => true
def lcNm (t v : Expr) : Bool := match t, v with
  | .Name _ _, .ListComp _ _ _ _ => true
  | _, _ => false
mutual
def chkS (ct : CT) : S → Stmt → Bool
  | .asg tg e, st => match st with
    | .Assign [t] v _ => chkTg ct tg t && chkE ct e v && (if notComp v then isNm t || notTup v else lcNm t v)
    | _ => false
  | .par i j a b, st => match st with
    | .Assign [.Tuple [.Name x px, .Name y py] _ _] (.Tuple [u, v] _ _) _ => decide (ct.N[i]? = some x) && decide (ct.N[j]? = some y) && decide (i ≠ j) && decide (ct.sc.names.lookup x = some .local) && decide (ct.sc.names.lookup y = some .local) && decide (x ≠ y) &&
        notStar u && notStar v && (py.line == px.line) && !(foldedForSure 8 u && foldedForSure 8 v) && !(constantsAlone 8 u && constantsAlone 8 v) && chkE ct a u && chkE ct b v
    | _ => false
  | .put k i e, st => match st with
    | .Assign [.Subscript o y _] v _ => notSlice y && notComp v && chkE ct (.raw k) o && chkE ct i y && chkE ct e v
    | _ => false
  | .ife c a b, st => match st with
    | .If t x y _ => chkB ct c t && chkSs ct a x && chkSs ct b y
    | _ => false
  | .for tg it body, st => match st with
    | .For t i b [] _ => notSet i && chkTg ct tg t && chkI ct it i && chkSs ct body b
    | _ => false
  | .ret e, st => match st with
    | .Return (some v) _ => chkE ct e v
    | _ => false
  | .retN, st => match st with
    | .Return none _ => true
    | _ => false
  | .retS es, st => match st with
    | .Return (some (.List xs _)) _ => chkL ct es xs
    | _ => false
  | .expr e, st => match st with
    | .Expr v _ => notComp v && chkE ct e v
    | _ => false
  | .pass, st => match st with
    | .Pass _ => true
    | _ => false
  | .brk, st => match st with
    | .Break _ => true
    | _ => false
  | .cont, st => match st with
    | .Continue _ => true
    | _ => false
def chkSs (ct : CT) : List S → List Stmt → Bool
  | [], xs => xs.isEmpty
  | s :: r, xs => match xs with
    | x :: xr => chkS ct s x && chkSs ct r xr
    | [] => false
end
/-! ### the text's small facts -/
theorem swaps_tg {v t : Expr} {l : Nat} {env : Env} (h : notComp v = true) : swapsWithSole [t] v l env = pure false := by
  cases v <;> first | rfl | cases h
theorem swaps_e {v : Expr} {l : Nat} {env : Env} (h : notComp v = true) : swapsWith v none l env = pure false := by
  cases v <;> first | rfl | cases h
theorem stores_none {t v : Expr} {env : Env} (h : (isNm t || notTup v) = true) : swappedStores [t] v env = pure none := by
  cases t <;> first | rfl | (cases v <;> first | rfl | cases h)
theorem asg_one {t : Expr} {env : Env} : (assignEach [t] env).map (·.2) = [assign t env] ∨ notStar t = false := by
  cases t <;> first | exact .inl rfl | exact .inr rfl
theorem tg_star {ct : CT} {tg : Tg} {t : Expr} (h : chkTg ct tg t = true) : notStar t = true := by
  cases tg with
  | name i =>
    simp only [chkTg] at h
    split at h
    · rfl
    · cases h
  | tup ts =>
    simp only [chkTg] at h
    split at h
    · rfl
    · cases h
section
variable {g : Gx} {ct : CT} {W : WX} {X : Cx} {T : Tab}
theorem tgs_one {tg : Tg} {t : Expr} {env : Env} (h : chkTg ct tg t = true) : (assignEach [t] env).map (·.2) = [assign t env] := by
  rcases asg_one (t := t) (env := env) with q | q
  · exact q
  · rw [tg_star h] at q
    cases q
theorem js_asg (cx : CxOk g ct W X) {t v : Expr} {tg : Tg} {e : E} {pos : Pos} (ht : chkTg ct tg t = true) (hs : ∀ (pins : List (Addr × Obj)) (s : Shared) (σ : St) (H : Hp), L2.Inv X pins σ H s → swapsWithSole [t] v pos.line X.env = pure false) (hw : swappedStores [t] v X.env = pure none)
    (he : JE g W X v (evalE T e)) : JS g W X (.Assign [t] v pos) (execS T (.asg tg e)) := by
  intro ρ μ r h R F m σ H D so ro po pins s I
  simp only [execS] at h
  refine (ps_asg (pe_se X v) (pg_sg X t) (hs pins s σ H I) hw (tgs_one ht)).run pins s σ H D I ?_
  obtain ⟨ra, ea, pa⟩ := andS_post h ro po (Ka := QE g fun x H1 => SG X t x σ H1 D.nx) fun d μ1 e1 h1 F1 m1 H1 gr1 so1 x rx => by
    cases eb : bindT tg d ρ with
    | none =>
      rw [eb] at h1
      cases h1
    | some ρ1 =>
      rw [eb] at h1
      have h1 := Option.some.inj h1
      subst h1
      exact tg_ok cx tg t ht d ρ ρ1 eb R F1 m1 μ1 σ H1 x _ so1 (ro.mono gr1) rx fun σ' ro' _ => po F1 m1 σ' H1 gr1 so1 ro'
  exact he ρ μ ra ea R F m σ H _ so ro pa
theorem js_setLc (cx : CxOk g ct W X) {y t i : Expr} {cs : List Expr} {scope : Scope} {pos cpos py : Pos} {vs : List Nat} {tg : Tg} {it : I} {ifs : List B} {elt : E} {k : Nat} {x : Str} (hns : notSet i = true) (hbl : blkC ct.N ct.sc scope (vs.map fun v => (ct.N.getD v "", v)) = true)
    (hk : ct.N[k]? = some x) (hl : ct.sc.names.lookup x = some .local) (hln : (py.line == cpos.line) = true) (hno : (scope.names.any fun (n, q) => n == x && (q == .local || q == .cell)) = false)
    (hsl : ∀ j ∈ tg.slots, j ∈ vs) (hi : JI g W X i (evalI T it)) (ht : chkTg (ct.blk scope) tg t = true) (hcs : ∀ X', Blk X scope X' → JTs g (fun _ _ _ _ => False) X' cs (evalTs T ifs)) (he : ∀ X', Blk X scope X' → JE g (fun _ _ _ _ => False) X' y (evalE T elt)) :
    JS g W X (.Assign [.Name x py] (.ListComp y [⟨t, i, cs, 0⟩] scope cpos) pos) (execS T (.asg (.name k) (.lc vs tg it ifs elt))) := by
  intro ρ μ r h R F m σ H D so ro po pins s I
  simp only [execS] at h
  obtain ⟨bok, evs⟩ := lc_pe cx (y := y) (t := t) (i := i) (cs := cs) hbl
  have hl' : X.env.scope.names.lookup x = some .local := by
    rw [cx.sc]
    exact hl
  refine (ps_setLc (i := k) cx.calm (by rw [cx.N]; exact cx.nd) (by rw [cx.N]; exact hk) hl' (sw_true I.ok.kind hl' hln hno) (pi_si X t i) bok lc_pg lc_pt lc_el (set_of hns)).run pins s σ H D I ?_
  show tLc _ _ _ _ _ σ H fun z H1 => D.nx (σ.set k (some z)) H1
  rw [evs]
  obtain ⟨ra, ea, pa⟩ := andS_post h ro po (Ka := QE g fun z H1 => D.nx (σ.set k (some z)) H1) fun d μ1 e1 h1 F1 m1 H1 gr1 so1 z rz => by
    have h1 : some (Fl.next, ρ.set k (some d), μ1) = some r := h1
    have h1 := Option.some.inj h1
    subst h1
    exact po F1 m1 _ H1 gr1 so1 ((ro.mono gr1).set k rz)
  exact lc_read cx hsl hi ht hcs he ea so ro pa
theorem js_par (cx : CxOk g ct W X) {x y : Str} {u v : Expr} {i j : Nat} {a b : E} {px py pt pos pt2 : Pos} {kt k2 : Nat} (hi : ct.N[i]? = some x) (hj : ct.N[j]? = some y) (hij : i ≠ j) (hx : ct.sc.names.lookup x = some .local) (hy : ct.sc.names.lookup y = some .local) (hxy : x ≠ y)
    (hu : notStar u = true) (hv : notStar v = true) (hl : (py.line == px.line) = true) (hf : (foldedForSure 8 u && foldedForSure 8 v) = false) (hc : (constantsAlone 8 u && constantsAlone 8 v) = false) (ha : JE g W X u (evalE T a)) (hb : JE g W X v (evalE T b)) :
    JS g W X (.Assign [.Tuple [.Name x px, .Name y py] kt pt] (.Tuple [u, v] k2 pt2) pos) (execS T (.par i j a b)) := by
  intro ρ μ r h R F m σ H D so ro po pins s I
  simp only [execS] at h
  have hx' : X.env.scope.names.lookup x = some .local := by
    rw [cx.sc]
    exact hx
  have hy' : X.env.scope.names.lookup y = some .local := by
    rw [cx.sc]
    exact hy
  have hw : swappedStores [.Tuple [.Name x px, .Name y py] kt pt] (.Tuple [u, v] k2 pt2) X.env = pure (some [x, y]) := by
    have kx : X.env.kindOf x = some .local := hx'
    have ky : X.env.kindOf y = some .local := hy'
    have bk : X.env.blockKind = .function := by
      unfold Env.blockKind
      rw [I.ok.kind]
      rfl
    have hl' : py.line = px.line := eq_of_beq hl
    have dd : [x, y].eraseDups.length = 2 := by
      have hyx : (y == x) = false := beq_eq_false_iff_ne.mpr fun e => hxy e.symm
      simp [List.eraseDups_cons, hyx]
    have ff : [u, v].all (foldedForSure 8) = false := by
      simp only [List.all_cons, List.all_nil, Bool.and_true]
      exact hf
    have cc : [u, v].all (constantsAlone 8) = false := by
      simp only [List.all_cons, List.all_nil, Bool.and_true]
      exact hc
    unfold swappedStores
    simp only [List.length_cons, List.length_nil, bk, List.head?_cons, Option.map_some, Option.getD_some, List.filterMap_cons, List.filterMap_nil, Expr.pos, kx, ky, hl', dd, ff, cc]
    rw [if_neg (by decide), if_neg ?st]
    case st =>
      intro hany
      rw [List.any_eq_true] at hany
      obtain ⟨e, he, hm⟩ := hany
      simp only [List.mem_cons, List.not_mem_nil, or_false] at he
      rcases he with rfl | rfl
      · cases e <;> first | (cases hm; done) | (cases hu; done)
      · cases e <;> first | (cases hm; done) | (cases hv; done)
    have bl : (px.line == px.line) = true := beq_self_eq_true _
    have kk : (some NameKind.local == some NameKind.local) = true := by decide
    simp only [bl, kk, Bool.and_self, if_true, List.length_cons, List.length_nil, dd]
    rfl
  refine (ps_par (i := i) (j := j) cx.calm (by rw [cx.N]; exact cx.nd) (by rw [cx.N]; exact hi) (by rw [cx.N]; exact hj) hij hx' hy' (pa_cons (pe_se X u) (pa_cons (pe_se X v) pa_nil (star_cons hv _ _)) (star_cons hu _ _)) hw).run pins s σ H D I ?_
  obtain ⟨ra, ea, pa⟩ := andS_post h ro po (Ka := QE g fun z H1 => SE X v σ H1 fun w' H2 => ∃ p q, [z, w'] = [p, q] ∧ D.nx ((σ.set i (some p)).set j (some q)) H2) fun d μ1 e1 h1 F1 m1 H1 gr1 so1 z rz => by
    obtain ⟨rb, eb, pb⟩ := andS_post h1 (ro.mono gr1) (po.grow gr1) (Ka := QE g fun w' H2 => ∃ p q, [z, w'] = [p, q] ∧ D.nx ((σ.set i (some p)).set j (some q)) H2) fun d2 μ2 e2 h2 F2 m2 H2 gr2 so2 z2 rz2 => by
      have h2 := Option.some.inj h2
      subst h2
      exact ⟨z, z2, rfl, po F2 m2 _ H2 (gr1.trans gr2) so2 (((ro.mono (gr1.trans gr2)).set i (Rep.mono gr2 _ _ rz)).set j rz2)⟩
    exact hb ρ μ1 rb eb R F1 m1 σ H1 _ so1 (ro.mono gr1) pb
  exact ha ρ μ ra ea R F m σ H _ so ro pa
/-- a store to a place, by values -/
theorem js_put (cx : CxOk g ct W X) {o y v : Expr} {k : Nat} {i e : E} {pos p2 : Pos} (hs : notSlice y = true) (hn : notComp v = true) (ho : JE g W X o (evalE T (.raw k))) (hi : JE g W X y (evalE T i)) (he : JE g W X v (evalE T e)) :
    JS g W X (.Assign [.Subscript o y p2] v pos) (execS T (.put k i e)) := by
  intro ρ μ r h R F m σ H D so ro po pins s I
  simp only [execS] at h
  have hasg : ∀ u, assign (.Subscript o y p2) X.env u = (do
      let ov ← holding [u] (eval o X.env)
      let iv ← holding [u, ov] (eval y X.env)
      standAt p2
      holding [u, ov, iv] (setItem ov iv u)
      release [u, ov, iv] []) := by
    intro u
    cases y <;> first | rfl | cases hs
  have hone : (assignEach [Expr.Subscript o y p2] X.env).map (·.2) = [assign (.Subscript o y p2) X.env] := rfl
  refine (ps_asg (pe_se X v) (pg_sub (pe_se X o) (pe_se X y) set_list hasg) (swaps_tg hn) (by cases v <;> rfl) hone).run pins s σ H D I ?_
  obtain ⟨ra, ea, pa⟩ := andS_post h ro po (Ka := QE g fun z H1 => SE X o σ H1 fun a H2 => SE X y σ H2 fun n H3 => rSetL a n z H3 fun H4 => D.nx σ H4) fun d μ1 e1 h1 F1 m1 H1 gr1 so1 z rz => by
    obtain ⟨rb, eb, pb⟩ := andS_post h1 (ro.mono gr1) (po.grow gr1) (Ka := QE g fun a H2 => SE X y σ H2 fun n H3 => rSetL a n z H3 fun H4 => D.nx σ H4) fun d2 μ2 e2 h2 F2 m2 H2 gr2 so2 a ra => by
      obtain ⟨rc, ec, pc⟩ := andS_post h2 (ro.mono (gr1.trans gr2)) (po.grow (gr1.trans gr2)) (Ka := QE g fun n H3 => rSetL a n z H3 fun H4 => D.nx σ H4) fun d3 μ3 e3 h3 F3 m3 H3 gr3 so3 n rn => by
        have gr := (gr1.trans gr2).trans gr3
        split at h3
        · rename_i q
          have rn : n = .int q := rn
          subst rn
          have rz' := Rep.mono (gr2.trans gr3) _ _ rz
          have ra' := Rep.mono gr3 _ _ ra
          unfold putC at h3
          split at h3
          · rename_i kk
            obtain ⟨ad, ead, rfl⟩ := ra'
            split at h3
            · rename_i xs hk
              split at h3
              · rename_i hnr
                obtain ⟨b, eb', hF, ws, hH, rr⟩ := so3.cell _ _ hk
                rw [ead] at eb'
                cases eb'
                cases ej : ixN xs.length q with
                | none =>
                  rw [ej] at h3
                  cases h3
                | some jj =>
                  rw [ej] at h3
                  have h3 := Option.some.inj h3
                  subst h3
                  refine ⟨ad, ws, q, jj, rfl, rfl, hH, by rw [← rr.length]; exact ej, ?_⟩
                  exact po F3 m3 σ _ gr (so3.put ead hF (RepL.set rz' jj rr) (Sg.D.nrL_set hnr jj (so3.nr _ _ hk)) (.inl rfl)) (ro.mono gr)
              · cases h3
            · rename_i xs hk
              split at h3
              · rename_i hnr
                obtain ⟨b, eb', hF, ws, hH, rr⟩ := so3.cell _ _ hk
                rw [ead] at eb'
                cases eb'
                cases ej : ixN xs.length q with
                | none =>
                  rw [ej] at h3
                  cases h3
                | some jj =>
                  rw [ej] at h3
                  have h3 := Option.some.inj h3
                  subst h3
                  refine ⟨ad, ws, q, jj, rfl, rfl, hH, by rw [← rr.length]; exact ej, ?_⟩
                  exact po F3 m3 σ _ gr (so3.put ead hF (RepL.set rz' jj rr) (Sg.D.nrL_set hnr jj (so3.nr _ _ hk)) (.inr rfl)) (ro.mono gr)
              · cases h3
            · cases h3
          · cases h3
        · cases h3
      exact hi ρ μ2 rc ec R F2 m2 σ H2 _ so2 (ro.mono (gr1.trans gr2)) pc
    exact ho ρ μ1 rb eb R F1 m1 σ H1 _ so1 (ro.mono gr1) pb
  exact he ρ μ ra ea R F m σ H _ so ro pa
theorem js_ife {c : Expr} {a b : List Stmt} {ic : B} {ia ib : List S} {pos : Pos} (hc : JT g W X c (evalT T ic)) (ha : JSs g W X a (execL T ia)) (hb : JSs g W X b (execL T ib)) : JS g W X (.If c a b pos) (execS T (.ife ic ia ib)) := by
  intro ρ μ r h R F m σ H D so ro po
  simp only [execS] at h
  refine SS.of (ps_if (pt_st X c) (pss_sss X a) (pss_sss X b)) ?_
  obtain ⟨rc, ec, pc⟩ := andS_post h ro po (Ka := fun F' m' H' k => if k = true then SSs X a D σ H' else SSs X b D σ H') fun k μ1 e1 h1 F1 m1 H1 gr1 so1 => by
    cases k with
    | true => exact iteT (ha ρ μ1 r h1 R F1 m1 σ H1 D so1 (ro.mono gr1) (po.grow gr1))
    | false => exact iteF (hb ρ μ1 r h1 R F1 m1 σ H1 D so1 (ro.mono gr1) (po.grow gr1))
  exact hc ρ μ rc ec R F m σ H _ so ro pc
theorem js_ret {v : Expr} {e : E} {pos : Pos} (he : JE g W X v (evalE T e)) : JS g W X (.Return (some v) pos) (execS T (.ret e)) := by
  intro ρ μ r h R F m σ H D so ro po
  simp only [execS] at h
  refine SS.of (ps_ret (pe_se X v)) ?_
  obtain ⟨ra, ea, pa⟩ := andS_post h ro po (Ka := QE g D.rt) fun d μ1 e1 h1 F1 m1 H1 gr1 so1 z rz => by
    have h1 := Option.some.inj h1
    subst h1
    exact po F1 m1 σ H1 gr1 so1 (ro.mono gr1) z rz
  exact he ρ μ ra ea R F m σ H _ so ro pa
theorem js_retN {pos : Pos} : JS g W X (.Return none pos) (execS T .retN) := by
  intro ρ μ r h R F m σ H D so ro po
  simp only [execS] at h
  have h := Option.some.inj h
  subst h
  exact SS.of ps_retN (po F m σ H (Grow.refl _ _) so ro .non rfl)
theorem js_retS {xs : List Expr} {es : List E} {pos p2 : Pos} (ha : JA g W X xs (evalL T es)) : JS g W X (.Return (some (.List xs p2)) pos) (execS T (.retS es)) := by
  intro ρ μ r h R F m σ H D so ro po
  simp only [execS] at h
  refine SS.of (ps_ret (pe_lst (pa_sa X xs))) ?_
  obtain ⟨ra, ea, pa⟩ := andS_post h ro po (Ka := fun F' m' H' ds => ∀ vs, RepL g.B F' m' ds vs → vs.length ≤ sizeLine ∧ ∀ p, H' p = none → D.rt (.ref p) (upd H' p (.lst vs))) fun ds μ1 e1 h1 F1 m1 H1 gr1 so1 vs rv => by
    split at h1
    · rename_i hl
      have h1 := Option.some.inj h1
      subst h1
      refine ⟨by rw [← rv.length]; exact hl.1, fun p hp => ?_⟩
      obtain ⟨gr2, so2⟩ := so1.newShr hp rv hl.2
      refine po F1 (m1 ++ [p]) σ _ (gr1.trans gr2) so2 (ro.mono (gr1.trans gr2)) (.ref p) ⟨p, ?_, rfl⟩
      rw [← so1.len, List.getElem?_append_right (Nat.le_refl _), Nat.sub_self]
      rfl
    · cases h1
  exact ha ρ μ ra ea R F m σ H _ so ro pa
theorem js_expr {v : Expr} {e : E} {pos : Pos} (hn : notComp v = true) (he : JE g W X v (evalE T e)) : JS g W X (.Expr v pos) (execS T (.expr e)) := by
  intro ρ μ r h R F m σ H D so ro po
  simp only [execS] at h
  refine SS.of (ps_expr (pe_se X v) (swaps_e hn)) ?_
  obtain ⟨ra, ea, pa⟩ := andS_post h ro po (Ka := QE g fun _ H1 => D.nx σ H1) fun d μ1 e1 h1 F1 m1 H1 gr1 so1 z rz => by
    have h1 := Option.some.inj h1
    subst h1
    exact po F1 m1 σ H1 gr1 so1 (ro.mono gr1)
  exact he ρ μ ra ea R F m σ H _ so ro pa
theorem js_next {st : Stmt} {s : S} (hp : PS X st tNext) (hs : ∀ ρ μ, execS T s ρ μ = some (.next, ρ, μ)) : JS g W X st (execS T s) := by
  intro ρ μ r h R F m σ H D so ro po
  rw [hs] at h
  have h := Option.some.inj h
  subst h
  exact SS.of hp (po F m σ H (Grow.refl _ _) so ro)
theorem js_brk {pos : Pos} : JS g W X (.Break pos) (execS T .brk) := by
  intro ρ μ r h R F m σ H D so ro po
  simp only [execS] at h
  have h := Option.some.inj h
  subst h
  exact SS.of ps_break (po F m σ H (Grow.refl _ _) so ro)
theorem js_cont {pos : Pos} : JS g W X (.Continue pos) (execS T .cont) := by
  intro ρ μ r h R F m σ H D so ro po
  simp only [execS] at h
  have h := Option.some.inj h
  subst h
  exact SS.of ps_continue (po F m σ H (Grow.refl _ _) so ro)
theorem jss_nil : JSs g W X [] (execL T []) := by
  intro ρ μ r h R F m σ H D so ro po
  simp only [execL] at h
  have h := Option.some.inj h
  subst h
  exact SSs.of pss_nil (po F m σ H (Grow.refl _ _) so ro)
theorem jss_cons {st : Stmt} {sts : List Stmt} {s : S} {ss : List S} (h1 : JS g W X st (execS T s)) (h2 : JSs g W X sts (execL T ss)) : JSs g W X (st :: sts) (execL T (s :: ss)) := by
  intro ρ μ r h R F m σ H D so ro po
  simp only [execL] at h
  refine SSs.of (pss_cons (ps_ss X st) (pss_sss X sts)) ?_
  cases e : execS T s ρ μ with
  | none =>
    rw [e] at h
    cases h
  | some r1 =>
    rw [e] at h
    obtain ⟨f1, ρ1, μ1⟩ := r1
    refine h1 ρ μ _ e R F m σ H _ so ro fun F' m' σ' H' gr so' ro' => ?_
    cases f1 with
    | next => exact h2 ρ1 μ1 r h R F' m' σ' H' D so' ro' (po.grow gr)
    | brk =>
      have h := Option.some.inj h
      subst h
      exact po F' m' σ' H' gr so' ro'
    | cont =>
      have h := Option.some.inj h
      subst h
      exact po F' m' σ' H' gr so' ro'
    | ret d =>
      have h := Option.some.inj h
      subst h
      exact po F' m' σ' H' gr so' ro'
    | exc x =>
      have h := Option.some.inj h
      subst h
      exact po F' m' σ' H' gr so' ro'
theorem forM_cons {b : D → Rho → Option Rho} {f : Rho → Store → Option (Fl × Rho × Store)} {x : D} {r : List D} {ρ : Rho} {μ : Store} {z : Fl × Rho × Store} (h : forM b f (x :: r) ρ μ = some z) :
    ∃ ρ1 fl ρ2 μ2, b x ρ = some ρ1 ∧ f ρ1 μ = some (fl, ρ2, μ2) ∧ (match fl with
      | .next => forM b f r ρ2 μ2 = some z
      | .cont => forM b f r ρ2 μ2 = some z
      | .brk => z = (.next, ρ2, μ2)
      | .ret d => z = (.ret d, ρ2, μ2)
      | .exc x => z = (.exc x, ρ2, μ2)) := by
  simp only [forM] at h
  cases eb : b x ρ with
  | none =>
    rw [eb] at h
    cases h
  | some ρ1 =>
    rw [eb] at h
    cases ef : f ρ1 μ with
    | none =>
      simp only [ef] at h
      cases h
    | some q =>
      obtain ⟨fl, ρ2, μ2⟩ := q
      simp only [ef] at h
      refine ⟨ρ1, fl, ρ2, μ2, rfl, ef, ?_⟩
      cases fl with
      | next => exact h
      | cont => exact h
      | brk => exact (Option.some.inj h).symm
      | ret d => exact (Option.some.inj h).symm
      | exc x => exact (Option.some.inj h).symm
theorem js_for (cx : CxOk g ct W X) {t i : Expr} {body : List Stmt} {tg : Tg} {it : I} {ib : List S} {pos : Pos} (hns : notSet i = true) (ht : chkTg ct tg t = true) (hi : JI g W X i (evalI T it)) (hb : JSs g W X body (execL T ib)) : JS g W X (.For t i body [] pos) (execS T (.for tg it ib)) := by
  intro ρ μ r h R F m σ H D so ro po
  simp only [execS] at h
  refine SS.of (ps_for cx.pas cx.calm (pi_si X t i) (pg_sg X t) (pss_sss X body) (set_of hns)) ?_
  obtain ⟨ri, ei, pi⟩ := andS_post h ro po (Ka := fun F1 m1 H1 ds => ∀ J, WalkD g.B F1 m1 J ds → ∃ W : Nat → Nat → St → Hp → Prop, (∃ m, W 0 m σ H1) ∧ ∀ i m σ H, W i m σ H →
      (J.stop i H ∧ D.nx σ H) ∨ (J.go i H ∧ ∃ N : St → Hp → Prop, (∀ σ' H', N σ' H' → ∃ m', m' < m ∧ W (i + 1) m' σ' H') ∧ ∀ x H', J.yld i H x H' → SG X t x σ H' fun σ2 H2 => SSs X body { D with nx := N, ct := N, bk := D.nx } σ2 H2)) fun ds μ1 e1 h1 F1 m1 H1 gr1 so1 J wk => by
    have po1 := po.grow gr1
    refine for_it wk (g := SG X t) (tb := SSs X body) (D := D) (fun n σn Hn => ∃ F2 m2 ρn μn, Grow F1 m1 F2 m2 ∧ SOk g.B R F2 m2 μn Hn ∧ ROk g.B F2 m2 ρn σn ∧ forM (fun d ρ => bindT tg d ρ) (fun ρ μ => execL T ib ρ μ) (ds.drop n) ρn μn = some r) ?_ ?_ ?_ ?_
    · exact ⟨F1, m1, ρ, μ1, Grow.refl _ _, so1, ro.mono gr1, h1⟩
    · rintro n σn Hn _ ⟨F2, m2, ρn, μn, gr2, so2, _⟩
      exact gr2.sub.trans so2.sub
    · rintro n x σn Hn Hx hn ⟨F2, m2, ρn, μn, gr2, so2, ro2, hR⟩ ⟨d, hd, yl⟩
      obtain ⟨F3, gr3, so3, rx⟩ := yl _ F2 m2 μn gr2 so2
      have edrop : ds.drop n = d :: ds.drop (n + 1) := by
        obtain ⟨hl, e⟩ := List.getElem?_eq_some_iff.mp hd
        rw [← e]
        exact List.drop_eq_getElem_cons hl
      rw [edrop] at hR
      obtain ⟨ρ1, fl, ρ2, μ2, b1, b2, b3⟩ := forM_cons hR
      refine tg_ok cx tg t ht d ρn ρ1 b1 R F3 m2 μn σn Hx x _ so3 (ro2.mono gr3) rx fun σ2 ro3 _ => ?_
      refine hb ρ1 μn _ b2 R F3 m2 σ2 Hx _ so3 ro3 fun F4 m4 σ4 H4 gr4 so4 ro4 => ?_
      have gr := (gr2.trans gr3).trans gr4
      cases fl with
      | next => exact ⟨F4, m4, ρ2, μ2, gr, so4, ro4, b3⟩
      | cont => exact ⟨F4, m4, ρ2, μ2, gr, so4, ro4, b3⟩
      | brk =>
        have b3 : r = _ := b3
        subst b3
        exact po1 F4 m4 σ4 H4 gr so4 ro4
      | ret d =>
        have b3 : r = _ := b3
        subst b3
        exact po1 F4 m4 σ4 H4 gr so4 ro4
      | exc x =>
        have b3 : r = _ := b3
        subst b3
        exact po1 F4 m4 σ4 H4 gr so4 ro4
    · rintro σn Hn ⟨F2, m2, ρn, μn, gr2, so2, ro2, hR⟩
      rw [List.drop_length] at hR
      have hR := Option.some.inj hR
      subst hR
      exact po1 F2 m2 σn Hn gr2 so2 ro2
  exact hi t ρ μ ri ei R F m σ H _ so ro pi
end
end Sg
/-! Sg11: the theorem of statements; defs; the law. -/
namespace Sg
open PySem L2
theorem sAsg {g : Gx} {T : Tab} (ct : CT) (W : WX) (X : Cx) (tg : Tg) (e : E) (t v : Expr) (pos : Pos) (fo : FnsOk g T ct.fns ct.cons) (cx : CxOk g ct W X) (h1 : chkTg ct tg t = true) (h2 : chkE ct e v = true) (h3 : (if notComp v then isNm t || notTup v else lcNm t v) = true) :
    JS g W X (.Assign [t] v pos) (execS T (.asg tg e)) := by
  by_cases hn : notComp v = true
  · rw [if_pos hn] at h3
    exact js_asg cx h1 (fun _ _ _ _ _ => swaps_tg hn) (stores_none h3) (sE e ct W X v fo cx h2)
  · rw [if_neg hn] at h3
    unfold lcNm at h3
    split at h3
    · rename_i x py y gens scope cpos
      cases e with
      | lc vs tgc it ifs elt =>
        have h2' := h2
        simp only [chkE] at h2'
        split at h2'
        · rename_i y' t' i' cs' n' scope' cpos' heq
          cases heq
          simp only [Bool.and_eq_true, decide_eq_true_eq, List.all_eq_true] at h2'
          obtain ⟨⟨⟨⟨⟨⟨⟨rfl, q1⟩, q2⟩, q3⟩, q4⟩, q5⟩, q6⟩, q7⟩ := h2'
          cases tg with
          | tup ts => cases h1
          | name k =>
            simp only [chkTg, Bool.and_eq_true, decide_eq_true_eq] at h1
            obtain ⟨k1, k2⟩ := h1
            by_cases hl : ct.sc.names.lookup x = some .local ∧ (py.line == cpos.line) = true ∧ (scope.names.any fun (n, q) => n == x && (q == .local || q == .cell)) = false
            · exact js_setLc cx q1 q2 k1 hl.1 hl.2.1 hl.2.2 q3 (sI it ct W X _ fo cx q4) q5 (fun X' bx => sBs ifs (ct.blk scope) _ X' _ fo (Blk.ok cx bx) q6) (fun X' bx => sE elt (ct.blk scope) _ X' _ fo (Blk.ok cx bx) q7)
            · refine js_asg cx (by simp only [chkTg, Bool.and_eq_true, decide_eq_true_eq]; exact ⟨k1, k2⟩) (fun pins s σ H I => ?_) rfl (sE _ ct W X _ fo cx h2)
              show swapsWith (.ListComp y [⟨t', i', cs', 0⟩] scope cpos) (some (.Name x py)) pos.line X.env = pure false
              have bk : X.env.blockKind = .function := by
                unfold Env.blockKind
                rw [I.ok.kind]
                rfl
              unfold swapsWith
              simp only [bk, Expr.pos]
              show pure _ = pure false
              congr 1
              have kx : X.env.kindOf x = ct.sc.names.lookup x := by
                show X.env.scope.names.lookup x = _
                rw [cx.sc]
              rw [kx]
              by_cases a1 : ct.sc.names.lookup x = some .local
              · by_cases a2 : (py.line == cpos.line) = true
                · have a3 : (scope.names.any fun (n, q) => n == x && (q == .local || q == .cell)) = true := by
                    cases q : (scope.names.any fun (n, q) => n == x && (q == .local || q == .cell)) with
                    | true => rfl
                    | false => exact absurd ⟨a1, a2, q⟩ hl
                  rw [a3]
                  simp
                · have a2 : (py.line == cpos.line) = false := by simpa using a2
                  rw [a2]
                  simp
              · have a1 : (ct.sc.names.lookup x == some .local) = false := by
                  rw [beq_eq_false_iff_ne]
                  exact a1
                rw [a1]
                simp
        · cases h2'
      | _ => simp only [chkE] at h2; cases h2
    · cases h3
mutual
theorem sS {g : Gx} {T : Tab} : ∀ (ir : S) (ct : CT) (W : WX) (X : Cx) (st : Stmt), FnsOk g T ct.fns ct.cons → CxOk g ct W X → chkS ct ir st = true → JS g W X st (execS T ir)
  | .asg tg e, ct, W, X, st, fo, cx, h => by
    simp only [chkS] at h
    split at h
    · rw [Bool.and_eq_true, Bool.and_eq_true] at h
      exact sAsg ct W X tg e _ _ _ fo cx h.1.1 h.1.2 h.2
    · cases h
  | .par i j a b, ct, W, X, st, fo, cx, h => by
    simp only [chkS] at h
    split at h
    · simp only [Bool.and_eq_true, decide_eq_true_eq, Bool.not_eq_true'] at h
      obtain ⟨⟨⟨⟨⟨⟨⟨⟨⟨⟨⟨⟨h1, h2⟩, h3⟩, h4⟩, h5⟩, h6⟩, h7⟩, h8⟩, h9⟩, h10⟩, h11⟩, h12⟩, h13⟩ := h
      exact js_par cx h1 h2 h3 h4 h5 h6 h7 h8 h9 h10 h11 (sE a ct W X _ fo cx h12) (sE b ct W X _ fo cx h13)
    · cases h
  | .put k i e, ct, W, X, st, fo, cx, h => by
    simp only [chkS] at h
    split at h
    · simp only [Bool.and_eq_true] at h
      obtain ⟨⟨⟨⟨h1, h2⟩, h3⟩, h4⟩, h5⟩ := h
      exact js_put cx h1 h2 (sE _ ct W X _ fo cx h3) (sE i ct W X _ fo cx h4) (sE e ct W X _ fo cx h5)
    · cases h
  | .ife c a b, ct, W, X, st, fo, cx, h => by
    simp only [chkS] at h
    split at h
    · simp only [Bool.and_eq_true] at h
      exact js_ife (sB c ct W X _ fo cx h.1.1).1 (sSs a ct W X _ fo cx h.1.2) (sSs b ct W X _ fo cx h.2)
    · cases h
  | .for tg it body, ct, W, X, st, fo, cx, h => by
    simp only [chkS] at h
    split at h
    · simp only [Bool.and_eq_true] at h
      obtain ⟨⟨⟨h1, h2⟩, h3⟩, h4⟩ := h
      exact js_for cx h1 h2 (sI it ct W X _ fo cx h3) (sSs body ct W X _ fo cx h4)
    · cases h
  | .ret e, ct, W, X, st, fo, cx, h => by
    simp only [chkS] at h
    split at h
    · exact js_ret (sE e ct W X _ fo cx h)
    · cases h
  | .retN, ct, W, X, st, fo, cx, h => by
    simp only [chkS] at h
    split at h
    · exact js_retN
    · cases h
  | .retS es, ct, W, X, st, fo, cx, h => by
    simp only [chkS] at h
    split at h
    · exact js_retS (sL es ct W X _ fo cx h)
    · cases h
  | .expr e, ct, W, X, st, fo, cx, h => by
    simp only [chkS] at h
    split at h
    · rw [Bool.and_eq_true] at h
      exact js_expr h.1 (sE e ct W X _ fo cx h.2)
    · cases h
  | .pass, ct, W, X, st, fo, cx, h => by
    simp only [chkS] at h
    split at h
    · exact js_next ps_pass fun _ _ => by simp only [execS]
    · cases h
  | .brk, ct, W, X, st, fo, cx, h => by
    simp only [chkS] at h
    split at h
    · exact js_brk
    · cases h
  | .cont, ct, W, X, st, fo, cx, h => by
    simp only [chkS] at h
    split at h
    · exact js_cont
    · cases h
theorem sSs {g : Gx} {T : Tab} : ∀ (irs : List S) (ct : CT) (W : WX) (X : Cx) (sts : List Stmt), FnsOk g T ct.fns ct.cons → CxOk g ct W X → chkSs ct irs sts = true → JSs g W X sts (execL T irs)
  | [], ct, W, X, [], fo, cx, h => jss_nil
  | [], ct, W, X, _ :: _, fo, cx, h => by cases h
  | _ :: _, ct, W, X, [], fo, cx, h => by cases h
  | ir :: irs, ct, W, X, st :: sts, fo, cx, h => by
    simp only [chkSs, Bool.and_eq_true] at h
    exact jss_cons (sS ir ct W X _ fo cx h.1) (sSs irs ct W X _ fo cx h.2)
end

/-! ### a def by its body -/
section
variable {gd : Bool} {P : Program} {w : World} {mg : Str → Option Value} {base : Heap} {B : Bk} {k : Nat}
/-- the def's own context -/
theorem cx_of {g : Gx} {N : List Str} {qual : Str} {sc : Scope} {f : Addr} {cdv : Value} {A : Around} {outer : List Env} {s : Shared} {H : Hp} {E : XK} {fns cons : List Str} (nd : N.Nodup)
    (hr : Room g.lv (A.deeper (PyProof.Rows.envOfC qual sc s.heap.objs.size f cdv))) (hg : g.gd = true → A.guards = some []) :
    CxOk g ⟨N, sc, fun _ => true, fns, cons⟩ (fun cls d _ H' => E cls d H') (cxOf (L2.CX g.P g.w) g.P g.w g.B.K g.mg g.base N qual sc f cdv A outer s H E) :=
  ⟨rfl, rfl, rfl, rfl, rfl, rfl, rfl, nd, rfl, hr, hg, fun _ _ => rfl, passes_of rfl, takes_of rfl rfl rfl rfl⟩
theorem fnG_of {x qual : Str} {st : Stmt} {f : Addr} {fd : FuncData} {N ps : List Str} {sp : Sp} (F : Fun B.K x qual st f fd) (S : FnScope N ps (defScope st)) (len : ∀ vs H Q E, sp vs H Q E → vs.length = ps.length)
    (hbody : ∀ (cdv : Value) (A : Around) (outer : List Env) (s : Shared) (H : Hp) (vs : List V) (Q : VK) (E : XK), Room k (A.deeper (PyProof.Rows.envOfC qual (defScope st) s.heap.objs.size f cdv)) → (gd = true → A.guards = some []) → sp vs H Q E →
      SSs (cxOf (L2.CX P w) P w B.K mg base N qual (defScope st) f cdv A outer s H E) (defBody st) { nx := fun _ H' => Q .non H', rt := Q } (L2.start N vs) H) : FnG gd P w B.K mg base (k + 1) f fd ps sp := by
  obtain ⟨oc, od, kV, doc, pm, an, cdv, ct, osl, rfl, lk, hcd⟩ := F.ex
  refine ⟨len, fun A outer s H args us vs Q E hr hgu e0 hb r hsp => ?_⟩
  have hl := len _ _ _ _ hsp
  have kin : B.K.In s.heap := e0.mod.kin.keeps fun b o e => (e0.bs b o e).1
  have lim : s.heap.NoLimit := e0.mod.nolimit.keeps fun b o e => (e0.bs b o e).1
  have kinds : ∀ y ∈ ps.zip us, (defScope st).names.lookup y.1 = some .local ∨ ((defScope st).names.lookup y.1 = some .cell ∧ ((cellsFrom (s.heap.objs.size + 1) (defScope st).names []).lookup y.1).isSome = true) := by
    rintro ⟨n, v⟩ hy
    rcases S.par n (List.of_mem_zip hy).1 with q | q
    · exact Or.inl q
    · exact Or.inr ⟨q, PySem.W.cellsFrom_some _ _ _ (Or.inl q)⟩
  refine codeAny_call_function hr.depth (kin _ _ lk) rfl S.co S.gen rfl (PySem.W.codeRec_of kin hcd) (hb _ _ _ _ ?_)
  refine wpAny_newFunctionEnv_cells S.kind kinds fun env he s1 x => ?_
  subst he
  refine ⟨lim.keeps x.toInCall.keep, codeAny_func ?_⟩
  have J : L2.Inv (cxOf (L2.CX P w) P w B.K mg base N qual (defScope st) f cdv A outer s H E) [] (L2.start N vs) H s1 := inv_start S hr.hd e0 hl r x
  refine wpAny_mono (hbody cdv A outer s H vs Q E (hr.deeper _) hgu hsp [] s1 J) (fun fl s' hs => ?_) fun e s' hs => hs
  cases fl with
  | ret u =>
    obtain ⟨v, σ', H', J', rv, q⟩ := hs
    exact ⟨v, H', J'.os, J'.bare, J'.base, J'.hok, rv, q⟩
  | next =>
    obtain ⟨σ', H', J', q⟩ := hs
    exact ⟨V.non, H', J'.os, J'.bare, J'.base, J'.hok, rfl, q⟩
  | brk =>
    obtain ⟨_, _, _, q⟩ := hs
    exact False.elim q
  | cont =>
    obtain ⟨_, _, _, q⟩ := hs
    exact False.elim q
end
theorem start_ok {B : Bk} {F : Hp} {m : List Addr} {N : List Str} {ds : List D} {vs : List V} (h : RepL B F m ds vs) : ROk B F m (startR N.length ds) (L2.start N vs) := by
  have hl := h.length
  refine ⟨?_, fun i d e => ?_⟩
  · unfold startR L2.start
    simp [hl]
  · unfold startR at e
    by_cases hi : i < ds.length
    · rw [List.getElem?_append_left (by simpa using hi), List.getElem?_map] at e
      cases q : ds[i]? with
      | none =>
        rw [q] at e
        cases e
      | some d' =>
        rw [q] at e
        have e := Option.some.inj (Option.some.inj e)
        subst e
        obtain ⟨v, e1, e2⟩ := h.get i d' q
        refine ⟨v, ?_, e2⟩
        unfold L2.start
        rw [List.getElem?_append_left (by simpa [← hl] using hi), List.getElem?_map, e1]
        rfl
    · rw [List.getElem?_append_right (by simpa using hi), List.getElem?_replicate] at e
      split at e <;> cases e
/-- a def: t is what its body does -/
theorem fn_ok {g : Gx} {T : Tab} {fns cons : List Str} {x qual : Str} {st : Stmt} {f : Addr} {fd : FuncData} {N ps : List Str} {body : List S} {t : List D → M D} (fo : FnsOk g T fns cons) (F : Fun g.B.K x qual st f fd) (S : FnScope N ps (defScope st))
    (hc : chkSs ⟨N, defScope st, fun _ => true, fns, cons⟩ body (defBody st) = true) (hn : ∀ ds μ r, t ds μ = some r → ds.length = ps.length) (ht : ∀ ds μ r, t ds μ = some r → runB T N.length body ds μ = some r) :
    FnG g.gd g.P g.w g.B.K g.mg g.base (g.lv + 1) f fd ps (Prm g.B t) := by
  refine fnG_of F S (fun vs H Q E h => ?_) (fun cdv A outer s H vs Q E hr hgu h => ?_)
  · obtain ⟨R, F, m, μ, ds, r, so, rv, e, _⟩ := h
    rw [← rv.length]
    exact hn ds μ r e
  · obtain ⟨R, F, m, μ, ds, r, so, rv, e, po⟩ := h
    have cx := cx_of (g := g) (outer := outer) (H := H) (E := E) (fns := fns) (cons := cons) S.nd hr hgu
    have e := ht ds μ r e
    unfold runB at e
    cases q : execL T body (startR N.length ds) μ with
    | none =>
      rw [q] at e
      cases e
    | some z =>
      obtain ⟨fl, ρ', μ'⟩ := z
      rw [q] at e
      refine sSs body _ _ _ _ fo cx hc _ _ _ q R F m _ H _ so (start_ok rv) fun F' m' σ' H' gr so' ro' => ?_
      have hcut : SOk g.B R F' (m'.take μ.length) (μ'.take μ.length) H' := so'.cut μ.length
      have hm : Grow F m F' (m'.take μ.length) := ⟨gr.sub, fun k a ek => by
        have hk : k < μ.length := by
          rw [← so.len]
          exact (List.getElem?_eq_some_iff.mp ek).1
        rw [List.getElem?_take_of_lt hk]
        exact gr.pre k a ek⟩
      cases fl with
      | ret d =>
        have e : (if d.nr then some (Except.ok d, μ'.take μ.length) else none) = some r := e
        split at e
        · rename_i hd
          have e := Option.some.inj e
          subst e
          exact fun v rv' => po F' _ H' hm hcut v (Rep.any d v hd rv')
        · cases e
      | next =>
        have e := Option.some.inj e
        subst e
        exact po F' _ H' hm hcut V.non rfl
      | exc x =>
        have e : (if D.nrL x.ds then some (Except.error x, μ'.take μ.length) else none) = some r := e
        split at e
        · rename_i hd
          have e := Option.some.inj e
          subst e
          refine fun cls dx rx => po F' _ H' cls dx hm hcut ?_
          obtain ⟨ns, h1, h2⟩ := rx
          refine ⟨ns, h1, ?_⟩
          rcases h2 with h2 | ⟨d, vs, h3, h4, h5, h6⟩
          · exact .inl h2
          · exact .inr ⟨d, vs, h3, h4, h5, RepL.any _ _ hd h6⟩
        · cases e
      | brk => cases e
      | cont => cases e
/-- a def that hands back a new shared list -/
theorem fn_okN {g : Gx} {T : Tab} {fns cons : List Str} {x qual : Str} {st : Stmt} {f : Addr} {fd : FuncData} {N ps : List Str} {body : List S} {t : List D → M D} (fo : FnsOk g T fns cons) (F : Fun g.B.K x qual st f fd) (S : FnScope N ps (defScope st))
    (hc : chkSs ⟨N, defScope st, fun _ => true, fns, cons⟩ body (defBody st) = true) (hn : ∀ ds μ r, t ds μ = some r → ds.length = ps.length) (ht : ∀ ds μ r, t ds μ = some r → runN T N.length body ds μ = some r) :
    FnG g.gd g.P g.w g.B.K g.mg g.base (g.lv + 1) f fd ps (Prm g.B t) := by
  refine fnG_of F S (fun vs H Q E h => ?_) (fun cdv A outer s H vs Q E hr hgu h => ?_)
  · obtain ⟨R, F, m, μ, ds, r, so, rv, e, _⟩ := h
    rw [← rv.length]
    exact hn ds μ r e
  · obtain ⟨R, F, m, μ, ds, r, so, rv, e, po⟩ := h
    have cx := cx_of (g := g) (outer := outer) (H := H) (E := E) (fns := fns) (cons := cons) S.nd hr hgu
    have e := ht ds μ r e
    unfold runN at e
    cases q : execL T body (startR N.length ds) μ with
    | none =>
      rw [q] at e
      cases e
    | some z =>
      obtain ⟨fl, ρ', μ'⟩ := z
      rw [q] at e
      refine sSs body _ _ _ _ fo cx hc _ _ _ q R F m _ H _ so (start_ok rv) fun F' m' σ' H' gr so' ro' => ?_
      cases fl with
      | ret d =>
        cases d with
        | ref kk =>
          have e : (match μ'[kk]? with
            | some (.shr xs) => if μ.length ≤ kk then some (Except.ok (D.ref μ.length), μ'.take μ.length ++ [.shr xs]) else none
            | _ => none) = some r := e
          split at e
          · rename_i xs hk
            split at e
            · rename_i hle
              have e := Option.some.inj e
              subst e
              rintro v ⟨a, ea, rfl⟩
              have hcut : SOk g.B R F' (m'.take μ.length) (μ'.take μ.length) H' := so'.cut μ.length
              obtain ⟨b, eb, hF, ws, hH, rr⟩ := so'.cell _ _ hk
              rw [ea] at eb
              cases eb
              have nr := so'.nr _ _ hk
              have hnot : a ∉ m'.take μ.length := fun hm => by
                obtain ⟨j, hj, ej⟩ := List.mem_iff_getElem.mp hm
                have hj2 : j < μ.length := by
                  rw [List.length_take] at hj
                  omega
                have ej' : (m'.take μ.length)[j]? = some a := List.getElem?_eq_some_iff.mpr ⟨hj, ej⟩
                rw [List.getElem?_take_of_lt hj2] at ej'
                have := nodup_at so'.nd ej' ea
                omega
              have g1 : Grow F m F' (m'.take μ.length) := ⟨gr.sub, fun k a ek => by
                have hk : k < μ.length := by
                  rw [← so.len]
                  exact (List.getElem?_eq_some_iff.mp ek).1
                rw [List.getElem?_take_of_lt hk]
                exact gr.pre k a ek⟩
              have g2 : Grow F' (m'.take μ.length) F' (m'.take μ.length ++ [a]) := ⟨Same.refl _, fun k b ek => by
                rw [List.getElem?_append_left (List.getElem?_eq_some_iff.mp ek).1]
                exact ek⟩
              have hmu : μ.length ≤ μ'.length := by
                have := (List.getElem?_eq_some_iff.mp hk).1
                omega
              have lt : (m'.take μ.length).length = μ.length := by
                rw [List.length_take, show m'.length = μ'.length from so'.len]
                omega
              have so2 : SOk g.B R F' (m'.take μ.length ++ [a]) (μ'.take μ.length ++ [.shr xs]) H' := by
                refine ⟨hcut.sub, ?_, fun k c hk' => ?_, ?_, fun k c hk' => ?_, hcut.fr, fun b o eb => ⟨(hcut.ap b o eb).1, fun hm => ?_⟩⟩
                · rw [List.length_append, List.length_append, hcut.len]
                  rfl
                · by_cases hl : k < (μ'.take μ.length).length
                  · rw [List.getElem?_append_left hl] at hk'
                    obtain ⟨b, eb, hb⟩ := hcut.cell k c hk'
                    refine ⟨b, g2.pre _ _ eb, ?_⟩
                    cases c with
                    | own ys =>
                      obtain ⟨z1, zs, z2, z3⟩ := hb
                      exact ⟨z1, zs, z2, RepL.mono g2 _ _ z3⟩
                    | shr ys =>
                      obtain ⟨z1, zs, z2, z3⟩ := hb
                      exact ⟨z1, zs, z2, RepL.mono g2 _ _ z3⟩
                    | frz d =>
                      obtain ⟨z1, z2⟩ := hb
                      exact ⟨Rep.mono g2 _ _ z1, z2⟩
                  · rw [List.getElem?_append_right (by omega)] at hk'
                    have hm := List.mem_of_getElem? hk'
                    rw [List.mem_singleton] at hm
                    subst hm
                    have hz : k - (μ'.take μ.length).length = 0 := by
                      have := (List.getElem?_eq_some_iff.mp hk').1
                      have h1 : [Cell.shr xs].length = 1 := rfl
                      omega
                    refine ⟨a, ?_, hF, ws, hH, RepL.any _ _ nr rr⟩
                    rw [List.getElem?_append_right (by rw [hcut.len]; omega), hcut.len, hz]
                    rfl
                · rw [List.nodup_append]
                  exact ⟨hcut.nd, by simp, fun b hb c hc => by
                    rw [List.mem_singleton] at hc
                    subst hc
                    exact fun e => hnot (e ▸ hb)⟩
                · by_cases hl : k < (μ'.take μ.length).length
                  · rw [List.getElem?_append_left hl] at hk'
                    exact hcut.nr k c hk'
                  · rw [List.getElem?_append_right (by omega)] at hk'
                    have hm := List.mem_of_getElem? hk'
                    rw [List.mem_singleton] at hm
                    subst hm
                    exact nr
                · rcases List.mem_append.mp hm with h | h
                  · exact (hcut.ap b o eb).2 h
                  · rw [List.mem_singleton] at h
                    subst h
                    exact (so'.ap _ o eb).2 (List.mem_of_getElem? ea)
              refine po F' _ H' (g1.trans g2) so2 (.ref a) ⟨a, ?_, rfl⟩
              rw [List.getElem?_append_right (by rw [lt]; exact Nat.le_refl _), lt, Nat.sub_self]
              rfl
            · cases e
          · cases e
        | _ => cases e
      | next => cases e
      | exc x => cases e
      | brk => cases e
      | cont => cases e
theorem FnG.ok {P : Program} {w : World} {K : PySem.W.Frag} {mg : Str → Option Value} {base : Heap} {k : Nat} {f : Addr} {fd : FuncData} {ps : List Str} {sp : Sp} (F : FnG false P w K mg base k f fd ps sp) : FnOk P w K mg base (L2.CX P w) k f fd ps sp :=
  ⟨F.len, fun A outer s H args us vs Q E hr he hb hv hs => F.run A outer s H args us vs Q E hr (fun h => nomatch h) he hb hv hs⟩
theorem rol_ok {B : Bk} {F : Hp} {m : List Addr} {a : Addr} : ∀ {ns : List Int}, RepL B F m (ns.map D.int) (ns.map V.int)
  | [] => rfl
  | n :: ns => ⟨.int n, ns.map V.int, rfl, rfl, rol_ok (a := a)⟩
/-- a def's own work, with its number of parameters -/
def fnB (T : Tab) (n : Nat) (np : Nat) (body : List S) : List D → M D := fun ds μ => if ds.length = np then runB T n body ds μ else none
def fnN (T : Tab) (n : Nat) (np : Nat) (body : List S) : List D → M D := fun ds μ => if ds.length = np then runN T n body ds μ else none
theorem fnB_ok {g : Gx} {T : Tab} {fns cons : List Str} {x qual : Str} {st : Stmt} {f : Addr} {fd : FuncData} {N ps : List Str} {body : List S} (fo : FnsOk g T fns cons) (F : Fun g.B.K x qual st f fd) (S : FnScope N ps (defScope st))
    (hc : chkSs ⟨N, defScope st, fun _ => true, fns, cons⟩ body (defBody st) = true) : FnG g.gd g.P g.w g.B.K g.mg g.base (g.lv + 1) f fd ps (Prm g.B (fnB T N.length ps.length body)) :=
  fn_ok fo F S hc (fun ds μ r h => by
    unfold fnB at h
    split at h
    · assumption
    · cases h) fun ds μ r h => by
    unfold fnB at h
    split at h
    · exact h
    · cases h
theorem fnN_ok {g : Gx} {T : Tab} {fns cons : List Str} {x qual : Str} {st : Stmt} {f : Addr} {fd : FuncData} {N ps : List Str} {body : List S} (fo : FnsOk g T fns cons) (F : Fun g.B.K x qual st f fd) (S : FnScope N ps (defScope st))
    (hc : chkSs ⟨N, defScope st, fun _ => true, fns, cons⟩ body (defBody st) = true) : FnG g.gd g.P g.w g.B.K g.mg g.base (g.lv + 1) f fd ps (Prm g.B (fnN T N.length ps.length body)) :=
  fn_okN fo F S hc (fun ds μ r h => by
    unfold fnN at h
    split at h
    · assumption
    · cases h) fun ds μ r h => by
    unfold fnN at h
    split at h
    · exact h
    · cases h
theorem FnsOk.snoc {gd : Bool} {P : Program} {w : World} {mg : Str → Option Value} {base : Heap} {B : Bk} {lv : Nat} {ts : List (List D → M D)} {cs : List D} {fns cons : List Str} {t : List D → M D} {x : Str} {f : Addr} {fd : FuncData} {ps : List Str} (fo : FnsOk ⟨gd, P, w, mg, base, B, lv⟩ ⟨ts, cs⟩ fns cons)
    (h1 : mg x = some (.ref f)) (h2 : PySem.W.keepIn B.K (.ref f) = true) (h3 : Binds B.K fd ps []) (h4 : FnG gd P w B.K mg base (lv + 1) f fd ps (Prm B t)) : FnsOk ⟨gd, P, w, mg, base, B, lv + 1⟩ ⟨ts ++ [t], cs⟩ (fns ++ [x]) cons := by
  refine ⟨?_, fun i u y e1 e2 => ?_, fo.con, fo.blt⟩
  · rw [List.length_append, List.length_append]
    have := fo.ln
    exact congrArg (· + 1) this
  · have hl : ts.length = fns.length := fo.ln
    by_cases hi : i < ts.length
    · rw [List.getElem?_append_left hi] at e1
      rw [List.getElem?_append_left (by omega)] at e2
      obtain ⟨f', fd', ps', q1, q2, q3, q4⟩ := fo.fn i u y e1 e2
      exact ⟨f', fd', ps', q1, q2, q3, q4.mono (Nat.le_succ _)⟩
    · rw [List.getElem?_append_right (by omega)] at e1
      rw [List.getElem?_append_right (by omega)] at e2
      have m1 := List.mem_of_getElem? e1
      have m2 := List.mem_of_getElem? e2
      rw [List.mem_singleton] at m1 m2
      subst m1 m2
      exact ⟨f, fd, ps, h1, h2, h3, h4⟩
/-- the script is handed in, True comes out -/
theorem law_prm {B : Bk} {t : List D → M D} {H : Hp} {a : Addr} {ns : List Int} (hS : SqL B.K H a (ns.map V.int)) {μ' : Store} (h : t [.rol (ns.map D.int)] [] = some (.ok (.bl true), μ')) : Prm B t [.ref a] H (fun v _ => v = .bl true) (fun _ _ _ => False) := by
  refine ⟨fun _ => none, H, [], [], [.rol (ns.map D.int)], _, ⟨Same.refl H, rfl, (fun k c hk => by simp at hk), List.nodup_nil, (fun k c hk => by simp at hk), (fun b o e => by cases e), (fun b o e => by cases e)⟩, ?_, h, ?_⟩
  · exact RepL.one ⟨a, _, rfl, hS, rol_ok (a := a)⟩
  · intro F' m' H' _ _ v hv
    exact hv
end Sg
/-! Sg12: the evaluator's steps as rules, for plain reasoning about what a def does. -/
namespace Sg
open PySem L2
section
variable {T : Tab} {ρ ρ1 ρ2 : Rho} {μ μ1 μ2 μ3 : Store} {d x y z : D} {a b c e o i : E} {es : List E} {ds : List D}
theorem bd_of {α β : Type} {m : M α} {k : α → M β} {μ μ1 : Store} {v : α} {r : Option (Except Exc β × Store)} (h : m μ = some (.ok v, μ1)) (h2 : k v μ1 = r) : bd m k μ = r := by
  unfold bd
  rw [h]
  exact h2
theorem up_of {α : Type} {o : Option α} {v : α} {μ : Store} (h : o = some v) : up o μ = some (.ok v, μ) := by
  rw [h]
  rfl
theorem v_non : evalE T .non ρ μ = some (.ok .non, μ) := by simp only [evalE]; rfl
theorem v_bl {k : Bool} : evalE T (.bl k) ρ μ = some (.ok (.bl k), μ) := by simp only [evalE]; rfl
theorem v_int {k : Int} : evalE T (.int k) ρ μ = some (.ok (.int k), μ) := by simp only [evalE]; rfl
theorem v_str {k : Str} : evalE T (.str k) ρ μ = some (.ok (.str k), μ) := by simp only [evalE]; rfl
theorem v_emp : evalE T .emp ρ μ = some (.ok (.dic [] []), μ) := by simp only [evalE]; rfl
theorem v_var {k : Nat} (h : ρ[k]? = some (some d)) (hf : frzD d μ = some (.ok x, μ1)) : evalE T (.var k) ρ μ = some (.ok x, μ1) := by
  simp only [evalE]
  rw [h]
  exact hf
theorem v_raw {k : Nat} (h : ρ[k]? = some (some d)) : evalE T (.raw k) ρ μ = some (.ok d, μ) := by
  simp only [evalE]
  rw [h]
  rfl
theorem v_gcon {k : Nat} (h : T.cons[k]? = some d) : evalE T (.gcon k) ρ μ = some (.ok d, μ) := by
  simp only [evalE]
  rw [h]
  rfl
theorem v_bin {op : Operator} (ha : evalE T a ρ μ = some (.ok x, μ1)) (hb : evalE T b ρ μ1 = some (.ok y, μ2)) (h : binD op x y = some z) : evalE T (.bin op a b) ρ μ = some (.ok z, μ2) := by
  simp only [evalE]
  exact bd_of ha (bd_of hb (up_of h))
theorem v_neg {k : Int} (ha : evalE T a ρ μ = some (.ok (.int k), μ1)) : evalE T (.neg a) ρ μ = some (.ok (.int (-k)), μ1) := by
  simp only [evalE]
  exact bd_of ha rfl
theorem v_cmp {op : CmpOp} {k : Bool} (ha : evalE T a ρ μ = some (.ok x, μ1)) (hb : evalE T b ρ μ1 = some (.ok y, μ2)) (h : cmpD op x y = some k) : evalE T (.cmp op a b) ρ μ = some (.ok (.bl k), μ2) := by
  simp only [evalE]
  refine bd_of ha (bd_of hb (up_of ?_))
  rw [h]
  rfl
theorem v_chainT {op op' : CmpOp} {k : Bool} (ha : evalE T a ρ μ = some (.ok x, μ1)) (hb : evalE T b ρ μ1 = some (.ok y, μ2)) (h : cmpD op x y = some true) (hc : evalE T c ρ μ2 = some (.ok z, μ3)) (h2 : cmpD op' y z = some k) : evalE T (.chain op op' a b c) ρ μ = some (.ok (.bl k), μ3) := by
  simp only [evalE]
  refine bd_of ha (bd_of hb (bd_of (up_of h) ?_))
  refine bd_of hc (up_of ?_)
  rw [h2]
  rfl
theorem v_chainF {op op' : CmpOp} (ha : evalE T a ρ μ = some (.ok x, μ1)) (hb : evalE T b ρ μ1 = some (.ok y, μ2)) (h : cmpD op x y = some false) : evalE T (.chain op op' a b c) ρ μ = some (.ok (.bl false), μ2) := by
  simp only [evalE]
  exact bd_of ha (bd_of hb (bd_of (up_of h) rfl))
theorem v_andT (ha : evalE T a ρ μ = some (.ok (.bl true), μ1)) (hb : evalE T b ρ μ1 = some (.ok y, μ2)) : evalE T (.and a b) ρ μ = some (.ok y, μ2) := by
  simp only [evalE]
  exact bd_of ha hb
theorem v_andF (ha : evalE T a ρ μ = some (.ok (.bl false), μ1)) : evalE T (.and a b) ρ μ = some (.ok (.bl false), μ1) := by
  simp only [evalE]
  exact bd_of ha rfl
theorem v_orF (ha : evalE T a ρ μ = some (.ok (.bl false), μ1)) (hb : evalE T b ρ μ1 = some (.ok y, μ2)) : evalE T (.or a b) ρ μ = some (.ok y, μ2) := by
  simp only [evalE]
  exact bd_of ha hb
theorem v_orT (ha : evalE T a ρ μ = some (.ok (.bl true), μ1)) : evalE T (.or a b) ρ μ = some (.ok (.bl true), μ1) := by
  simp only [evalE]
  exact bd_of ha rfl
/-- and, where the right side raises nothing and changes nothing: one bool -/
theorem v_and {k l : Bool} (ha : evalE T a ρ μ = some (.ok (.bl k), μ1)) (hb : k = true → evalE T b ρ μ1 = some (.ok (.bl l), μ1)) : evalE T (.and a b) ρ μ = some (.ok (.bl (k && l)), μ1) := by
  cases k with
  | true => exact v_andT ha (hb rfl)
  | false => exact v_andF ha
theorem v_or {k l : Bool} (ha : evalE T a ρ μ = some (.ok (.bl k), μ1)) (hb : k = false → evalE T b ρ μ1 = some (.ok (.bl l), μ1)) : evalE T (.or a b) ρ μ = some (.ok (.bl (k || l)), μ1) := by
  cases k with
  | true => exact v_orT ha
  | false => exact v_orF ha (hb rfl)
theorem v_not {k : Bool} (ha : evalE T a ρ μ = some (.ok (.bl k), μ1)) : evalE T (.not a) ρ μ = some (.ok (.bl (!k)), μ1) := by
  simp only [evalE]
  exact bd_of ha rfl
theorem v_iteT {t : B} {r : Option (Except Exc D × Store)} (hc : evalT T t ρ μ = some (.ok true, μ1)) (ha : evalE T a ρ μ1 = r) : evalE T (.ite t a b) ρ μ = r := by
  simp only [evalE]
  exact bd_of hc ha
theorem v_iteF {t : B} {r : Option (Except Exc D × Store)} (hc : evalT T t ρ μ = some (.ok false, μ1)) (hb : evalE T b ρ μ1 = r) : evalE T (.ite t a b) ρ μ = r := by
  simp only [evalE]
  exact bd_of hc hb
theorem l_nil : evalL T [] ρ μ = some (.ok [], μ) := by simp only [evalL]; rfl
theorem l_cons (h : evalE T e ρ μ = some (.ok x, μ1)) (hs : evalL T es ρ μ1 = some (.ok ds, μ2)) : evalL T (e :: es) ρ μ = some (.ok (x :: ds), μ2) := by
  simp only [evalL]
  exact bd_of h (bd_of hs rfl)
theorem v_tup (h : evalL T es ρ μ = some (.ok ds, μ1)) (hl : ds.length ≤ sizeLine) : evalE T (.tup es) ρ μ = some (.ok (.tup ds), μ1) := by
  simp only [evalE]
  refine bd_of h ?_
  rw [if_pos hl]
  rfl
theorem v_lst (h : evalL T es ρ μ = some (.ok ds, μ1)) (hl : ds.length ≤ sizeLine) : evalE T (.lst es) ρ μ = some (.ok (.lst ds), μ1) := by
  simp only [evalE]
  refine bd_of h ?_
  rw [if_pos hl]
  rfl
theorem v_call {k : Nat} {t : List D → M D} {r : Option (Except Exc D × Store)} (h : evalL T es ρ μ = some (.ok ds, μ1)) (ht : T.fns[k]? = some t) (hr : t ds μ1 = r) : evalE T (.call k es) ρ μ = r := by
  simp only [evalE]
  refine bd_of h ?_
  rw [ht]
  exact hr
theorem v_blt {k : Blt} (h : evalL T es ρ μ = some (.ok ds, μ1)) (hr : bltD μ1 k ds = some z) : evalE T (.blt k es) ρ μ = some (.ok z, μ1) := by
  simp only [evalE]
  exact bd_of h (up_of hr)
theorem v_isi {t : Ty} {k : Bool} (h : evalE T a ρ μ = some (.ok x, μ1)) (hr : isiD x t = some k) : evalE T (.isi a t) ρ μ = some (.ok (.bl k), μ1) := by
  simp only [evalE]
  refine bd_of h (up_of ?_)
  rw [hr]
  rfl
theorem v_mth {k : Mth} (ho : evalE T o ρ μ = some (.ok x, μ1)) (ht : mthTy k x = true) (h : evalL T es ρ μ1 = some (.ok ds, μ2)) (hr : mthD k x ds = some z) : evalE T (.mth k o es) ρ μ = some (.ok z, μ2) := by
  simp only [evalE]
  refine bd_of ho ?_
  rw [if_pos ht]
  exact bd_of h (up_of hr)
theorem v_sub (ho : evalE T o ρ μ = some (.ok x, μ1)) (hi : evalE T i ρ μ1 = some (.ok y, μ2)) (hr : subD μ2 x y = some z) : evalE T (.sub o i) ρ μ = some (.ok z, μ2) := by
  simp only [evalE]
  exact bd_of ho (bd_of hi (up_of hr))
theorem o_none : evalO T none ρ μ = some (.ok none, μ) := by simp only [evalO]; rfl
theorem o_some {k : Int} (h : evalE T e ρ μ = some (.ok (.int k), μ1)) : evalO T (some e) ρ μ = some (.ok (some k), μ1) := by
  simp only [evalO]
  exact bd_of h rfl
theorem v_slc {lo hi : Option E} {l h : Option Int} (ho : evalE T o ρ μ = some (.ok x, μ1)) (hl : evalO T lo ρ μ1 = some (.ok l, μ2)) (hh : evalO T hi ρ μ2 = some (.ok h, μ3)) (hr : slcD x l h = some z) : evalE T (.slc o lo hi) ρ μ = some (.ok z, μ3) := by
  simp only [evalE]
  exact bd_of ho (bd_of hl (bd_of hh (up_of hr)))
theorem v_lc {vs : List Nat} {tg : Tg} {it : I} {ifs : List B} {ys : List D} (hi : evalI T it ρ μ = some (.ok ds, μ1)) (h : lcM (fun d => bindT tg d (wipeR ρ vs)) (fun ρ' => evalTs T ifs ρ') (fun ρ' => evalE T e ρ') ds μ1 = some (.ok ys, μ2)) (hl : ys.length ≤ sizeLine) :
    evalE T (.lc vs tg it ifs e) ρ μ = some (.ok (.lst ys), μ2) := by
  simp only [evalE]
  refine bd_of hi (bd_of (v := ys) (μ1 := μ2) ?_ ?_)
  · unfold sure
    rw [h]
  · rw [if_pos hl]
    rfl
/-! ### tests -/
theorem b_val {k : Bool} (h : evalE T e ρ μ = some (.ok x, μ1)) (hk : truD x = some k) : evalT T (.val e) ρ μ = some (.ok k, μ1) := by
  simp only [evalT]
  exact bd_of h (up_of hk)
theorem b_cmp {op : CmpOp} {k : Bool} (ha : evalE T a ρ μ = some (.ok x, μ1)) (hb : evalE T b ρ μ1 = some (.ok y, μ2)) (h : cmpD op x y = some k) : evalT T (.cmp op a b) ρ μ = some (.ok k, μ2) := by
  simp only [evalT]
  exact bd_of ha (bd_of hb (up_of h))
theorem b_chainT {op op' : CmpOp} {k : Bool} (ha : evalE T a ρ μ = some (.ok x, μ1)) (hb : evalE T b ρ μ1 = some (.ok y, μ2)) (h : cmpD op x y = some true) (hc : evalE T c ρ μ2 = some (.ok z, μ3)) (h2 : cmpD op' y z = some k) : evalT T (.chain op op' a b c) ρ μ = some (.ok k, μ3) := by
  simp only [evalT]
  exact bd_of ha (bd_of hb (bd_of (up_of h) (bd_of hc (up_of h2))))
theorem b_chainF {op op' : CmpOp} (ha : evalE T a ρ μ = some (.ok x, μ1)) (hb : evalE T b ρ μ1 = some (.ok y, μ2)) (h : cmpD op x y = some false) : evalT T (.chain op op' a b c) ρ μ = some (.ok false, μ2) := by
  simp only [evalT]
  exact bd_of ha (bd_of hb (bd_of (up_of h) rfl))
/-- a chain as one bool, where its last part changes nothing -/
theorem b_chain {op op' : CmpOp} {k l : Bool} (ha : evalE T a ρ μ = some (.ok x, μ1)) (hb : evalE T b ρ μ1 = some (.ok y, μ2)) (h : cmpD op x y = some k) (hc : evalE T c ρ μ2 = some (.ok z, μ2)) (h2 : cmpD op' y z = some l) : evalT T (.chain op op' a b c) ρ μ = some (.ok (k && l), μ2) := by
  cases k with
  | true => exact b_chainT ha hb h hc h2
  | false => exact b_chainF ha hb h
theorem v_chain {op op' : CmpOp} {k l : Bool} (ha : evalE T a ρ μ = some (.ok x, μ1)) (hb : evalE T b ρ μ1 = some (.ok y, μ2)) (h : cmpD op x y = some k) (hc : evalE T c ρ μ2 = some (.ok z, μ2)) (h2 : cmpD op' y z = some l) : evalE T (.chain op op' a b c) ρ μ = some (.ok (.bl (k && l)), μ2) := by
  cases k with
  | true => exact v_chainT ha hb h hc h2
  | false => exact v_chainF ha hb h
theorem b_not {t : B} {k : Bool} (h : evalT T t ρ μ = some (.ok k, μ1)) : evalT T (.not t) ρ μ = some (.ok (!k), μ1) := by
  simp only [evalT]
  exact bd_of h rfl
theorem b_andT {t u : B} {r : Option (Except Exc Bool × Store)} (h : evalT T t ρ μ = some (.ok true, μ1)) (h2 : evalT T u ρ μ1 = r) : evalT T (.and t u) ρ μ = r := by
  simp only [evalT]
  exact bd_of h h2
theorem b_andF {t u : B} (h : evalT T t ρ μ = some (.ok false, μ1)) : evalT T (.and t u) ρ μ = some (.ok false, μ1) := by
  simp only [evalT]
  exact bd_of h rfl
theorem b_orF {t u : B} {r : Option (Except Exc Bool × Store)} (h : evalT T t ρ μ = some (.ok false, μ1)) (h2 : evalT T u ρ μ1 = r) : evalT T (.or t u) ρ μ = r := by
  simp only [evalT]
  exact bd_of h h2
theorem b_orT {t u : B} (h : evalT T t ρ μ = some (.ok true, μ1)) : evalT T (.or t u) ρ μ = some (.ok true, μ1) := by
  simp only [evalT]
  exact bd_of h rfl
theorem b_or {t u : B} {k l : Bool} (h : evalT T t ρ μ = some (.ok k, μ1)) (h2 : k = false → evalT T u ρ μ1 = some (.ok l, μ1)) : evalT T (.or t u) ρ μ = some (.ok (k || l), μ1) := by
  cases k with
  | true => exact b_orT h
  | false => exact b_orF h (h2 rfl)
theorem b_and {t u : B} {k l : Bool} (h : evalT T t ρ μ = some (.ok k, μ1)) (h2 : k = true → evalT T u ρ μ1 = some (.ok l, μ1)) : evalT T (.and t u) ρ μ = some (.ok (k && l), μ1) := by
  cases k with
  | true => exact b_andT h (h2 rfl)
  | false => exact b_andF h
theorem bs_nil : evalTs T [] ρ μ = some (.ok true, μ) := by simp only [evalTs]; rfl
theorem bs_one {t : B} {k : Bool} (h : evalT T t ρ μ = some (.ok k, μ1)) : evalTs T [t] ρ μ = some (.ok k, μ1) := by
  simp only [evalTs]
  refine bd_of h ?_
  cases k <;> rfl
/-! ### walks -/
theorem i_val (h : evalE T e ρ μ = some (.ok x, μ1)) (hi : itemsD x = some ds) : evalI T (.val e) ρ μ = some (.ok ds, μ1) := by
  simp only [evalI]
  exact bd_of h (up_of hi)
theorem i_rng1 {j : Int} (h : evalE T a ρ μ = some (.ok (.int j), μ1)) (hj : rngOk j = true) : evalI T (.rng1 a) ρ μ = some (.ok (rngD 0 j.toNat), μ1) := by
  simp only [evalI]
  refine bd_of h ?_
  show (if rngOk j then rt (rngD 0 j.toNat) else up none) μ1 = _
  rw [if_pos hj]
  rfl
theorem i_rng2 {j k : Int} (h : evalE T a ρ μ = some (.ok (.int j), μ1)) (h2 : evalE T b ρ μ1 = some (.ok (.int k), μ2)) (hj : rngOk j = true) (hk : rngOk k = true) : evalI T (.rng2 a b) ρ μ = some (.ok (rngD j (k - j).toNat), μ2) := by
  simp only [evalI]
  refine bd_of h (bd_of h2 ?_)
  show (if rngOk j && rngOk k then rt (rngD j (k - j).toNat) else up none) μ2 = _
  rw [hj, hk]
  rfl
theorem rng_ok {j : Int} (h0 : -1000000000 ≤ j) (h : j ≤ 1000000000) : rngOk j = true := by
  unfold rngOk
  rw [decide_eq_true_eq]
  constructor <;> omega
/-! ### statements -/
variable {r : Option (Fl × Rho × Store)} {s : S} {ss : List S}
theorem andS_of {α : Type} {m : M α} {v : α} {k : α → Store → Option (Fl × Rho × Store)} (h : m μ = some (.ok v, μ1)) (hk : k v μ1 = r) : andS m ρ k μ = r := by
  unfold andS
  rw [h]
  exact hk
theorem x_asg {tg : Tg} (h : evalE T e ρ μ = some (.ok x, μ1)) (hb : bindT tg x ρ = some ρ1) : execS T (.asg tg e) ρ μ = some (.next, ρ1, μ1) := by
  simp only [execS]
  refine andS_of h ?_
  rw [hb]
  rfl
theorem x_par {k l : Nat} (h : evalE T a ρ μ = some (.ok x, μ1)) (h2 : evalE T b ρ μ1 = some (.ok y, μ2)) : execS T (.par k l a b) ρ μ = some (.next, (ρ.set k (some x)).set l (some y), μ2) := by
  simp only [execS]
  exact andS_of h (andS_of h2 rfl)
theorem x_put {k : Nat} {n : Int} (h : evalE T e ρ μ = some (.ok x, μ1)) (ho : ρ[k]? = some (some d)) (hi : evalE T i ρ μ1 = some (.ok (.int n), μ2)) (hp : putC μ2 d n x = some μ3) : execS T (.put k i e) ρ μ = some (.next, ρ, μ3) := by
  simp only [execS]
  refine andS_of h (andS_of (v_raw ho) (andS_of hi ?_))
  show (putC μ2 d n x).map _ = _
  rw [hp]
  rfl
theorem x_ifT {t : B} {p q : List S} (h : evalT T t ρ μ = some (.ok true, μ1)) (hs : execL T p ρ μ1 = r) : execS T (.ife t p q) ρ μ = r := by
  simp only [execS]
  exact andS_of h hs
theorem x_ifF {t : B} {p q : List S} (h : evalT T t ρ μ = some (.ok false, μ1)) (hs : execL T q ρ μ1 = r) : execS T (.ife t p q) ρ μ = r := by
  simp only [execS]
  exact andS_of h hs
theorem x_for {tg : Tg} {it : I} {body : List S} (h : evalI T it ρ μ = some (.ok ds, μ1)) (hs : forM (fun d ρ => bindT tg d ρ) (fun ρ μ => execL T body ρ μ) ds ρ μ1 = r) : execS T (.for tg it body) ρ μ = r := by
  simp only [execS]
  exact andS_of h hs
theorem x_ret (h : evalE T e ρ μ = some (.ok x, μ1)) : execS T (.ret e) ρ μ = some (.ret x, ρ, μ1) := by
  simp only [execS]
  exact andS_of h rfl
theorem x_retS (h : evalL T es ρ μ = some (.ok ds, μ1)) (hl : ds.length ≤ sizeLine) (hn : D.nrL ds = true) : execS T (.retS es) ρ μ = some (.ret (.ref μ1.length), ρ, μ1 ++ [.shr ds]) := by
  simp only [execS]
  refine andS_of h ?_
  rw [if_pos ⟨hl, hn⟩]
theorem x_expr (h : evalE T e ρ μ = some (.ok x, μ1)) : execS T (.expr e) ρ μ = some (.next, ρ, μ1) := by
  simp only [execS]
  exact andS_of h rfl
theorem x_pass : execS T .pass ρ μ = some (.next, ρ, μ) := by simp only [execS]
theorem xs_nil : execL T [] ρ μ = some (.next, ρ, μ) := by simp only [execL]
theorem xs_next (h : execS T s ρ μ = some (.next, ρ1, μ1)) (hs : execL T ss ρ1 μ1 = r) : execL T (s :: ss) ρ μ = r := by
  simp only [execL]
  rw [h]
  exact hs
theorem xs_ret (h : execS T s ρ μ = some (.ret x, ρ1, μ1)) : execL T (s :: ss) ρ μ = some (.ret x, ρ1, μ1) := by
  simp only [execL]
  rw [h]
/-- an if without else that is not taken -/
theorem xs_ifF {t : B} {p : List S} (h : evalT T t ρ μ = some (.ok false, μ1)) (hs : execL T ss ρ μ1 = r) : execL T (.ife t p [] :: ss) ρ μ = r := xs_next (x_ifF h xs_nil) hs
theorem run_ret {n : Nat} {body : List S} (h : execL T body (startR n ds) μ = some (.ret x, ρ1, μ1)) (hn : x.nr = true) : runB T n body ds μ = some (.ok x, μ1.take μ.length) := by
  unfold runB
  rw [h]
  show (if x.nr then _ else _) = _
  rw [if_pos hn]
theorem fnB_of {n np : Nat} {body : List S} {r : Option (Except Exc D × Store)} (hl : ds.length = np) (h : runB T n body ds μ = r) : fnB T n np body ds μ = r := by
  unfold fnB
  rw [if_pos hl]
  exact h
theorem fn_ret {n np : Nat} {body : List S} (hl : ds.length = np) (h : execL T body (startR n ds) μ = some (.ret x, ρ1, μ1)) (hn : x.nr = true) (hm : μ1.take μ.length = μ2) : fnB T n np body ds μ = some (.ok x, μ2) := by
  rw [← hm]
  exact fnB_of hl (run_ret h hn)
end
theorem frz_nr {d : D} {μ : Store} (h : d.nr = true) : frzD d μ = some (.ok d, μ) := by
  cases d <;> first | rfl | cases h
theorem bin_mod {i j : Int} (h : 0 < j) : binD .Mod (.int i) (.int j) = some (.int (i % j)) := by
  show (if 0 < j then _ else _) = _
  rw [if_pos h]
theorem bin_div {i j : Int} (h : divOk j = true) : binD .FloorDiv (.int i) (.int j) = some (.int (i / j)) := by
  show (if divOk j then _ else _) = _
  rw [if_pos h]
theorem bin_mul {i j : Int} (h : mulOk i j = true) : binD .Mult (.int i) (.int j) = some (.int (i * j)) := by
  show (if mulOk i j then _ else _) = _
  rw [if_pos h]
theorem bin_pow {i j : Int} (h : powOk i j = true) : binD .Pow (.int i) (.int j) = some (.int (i ^ j.toNat)) := by
  show (if powOk i j then _ else _) = _
  rw [if_pos h]
theorem mul_l {i j : Int} (h0 : -(2 ^ 64) < i) (h : i < 2 ^ 64) : mulOk i j = true := decide_eq_true (.inl ⟨h0, h⟩)
theorem mul_r {i j : Int} (h0 : -(2 ^ 64) < j) (h : j < 2 ^ 64) : mulOk i j = true := decide_eq_true (.inr (.inl ⟨h0, h⟩))
theorem div_ok {j : Int} (h0 : 0 < j) (h : j < 1000000000000000000) : divOk j = true := by
  unfold divOk
  rw [decide_eq_true_eq]
  refine ⟨h0, ?_⟩
  have : j.natAbs.log2 < 60 := by
    rw [Nat.log2_lt (by omega)]
    omega
  omega
/-! ### turns -/
/-- a comprehension whose turns change nothing -/
theorem lc_map {b : D → Option Rho} {f : Rho → M Bool} {e : Rho → M D} {μ : Store} (h : D → D) : ∀ (ds : List D), (∀ x ∈ ds, ∃ ρ, b x = some ρ ∧ f ρ μ = some (.ok true, μ) ∧ e ρ μ = some (.ok (h x), μ)) → lcM b f e ds μ = some (.ok (ds.map h), μ)
  | [], _ => rfl
  | x :: r, hx => by
    obtain ⟨ρ, h1, h2, h3⟩ := hx x (List.mem_cons_self ..)
    have ih := lc_map h r fun y hy => hx y (List.mem_cons_of_mem _ hy)
    simp only [lcM]
    rw [h1]
    refine bd_of h2 ?_
    exact bd_of h3 (bd_of ih rfl)
theorem lc_filter {b : D → Option Rho} {f : Rho → M Bool} {e : Rho → M D} {μ : Store} (p : D → Bool) (h : D → D) : ∀ (ds : List D), (∀ x ∈ ds, ∃ ρ, b x = some ρ ∧ f ρ μ = some (.ok (p x), μ) ∧ (p x = true → e ρ μ = some (.ok (h x), μ))) → lcM b f e ds μ = some (.ok ((ds.filter p).map h), μ)
  | [], _ => rfl
  | x :: r, hx => by
    obtain ⟨ρ, h1, h2, h3⟩ := hx x (List.mem_cons_self ..)
    have ih := lc_filter p h r fun y hy => hx y (List.mem_cons_of_mem _ hy)
    simp only [lcM]
    rw [h1]
    refine bd_of h2 ?_
    cases hp : p x with
    | true =>
      rw [List.filter_cons_of_pos hp]
      exact bd_of (h3 hp) (bd_of ih rfl)
    | false =>
      rw [List.filter_cons_of_neg (by rw [hp]; exact Bool.false_ne_true)]
      exact ih
/-- a comprehension whose turns go by an invariant of the store; each item is given (no test) -/
theorem lc_inv {b : D → Option Rho} {f : Rho → M Bool} {e : Rho → M D} (P : Store → Prop) (Y : D → Prop) : ∀ (ds : List D) (μ : Store), P μ → (∀ x ∈ ds, ∀ μ, P μ → ∃ ρ, b x = some ρ ∧ f ρ μ = some (.ok true, μ) ∧ ∃ y μ', e ρ μ = some (.ok y, μ') ∧ P μ' ∧ Y y) →
    ∃ ys μ', lcM b f e ds μ = some (.ok ys, μ') ∧ P μ' ∧ (∀ y ∈ ys, Y y) ∧ ys.length = ds.length
  | [], μ, hp, _ => ⟨[], μ, rfl, hp, (fun _ h => by cases h), rfl⟩
  | x :: r, μ, hp, hx => by
    obtain ⟨ρ, h1, h2, y, μ1, h3, h4, h5⟩ := hx x (List.mem_cons_self ..) μ hp
    obtain ⟨ys, μ2, q1, q2, q3, q4⟩ := lc_inv P Y r μ1 h4 fun y hy => hx y (List.mem_cons_of_mem _ hy)
    refine ⟨y :: ys, μ2, ?_, q2, fun z hz => ?_, by rw [List.length_cons, List.length_cons, q4]⟩
    · simp only [lcM]
      rw [h1]
      refine bd_of h2 ?_
      exact bd_of h3 (bd_of q1 rfl)
    · rcases List.mem_cons.mp hz with rfl | hz
      · exact h5
      · exact q3 z hz
/-- a for whose turns all go on, by an invariant of the names and the store -/
theorem for_inv {b : D → Rho → Option Rho} {f : Rho → Store → Option (Fl × Rho × Store)} (P : Rho → Store → Prop) : ∀ (ds : List D) (ρ : Rho) (μ : Store), P ρ μ → (∀ x ∈ ds, ∀ ρ μ, P ρ μ → ∃ ρ1, b x ρ = some ρ1 ∧ ∃ ρ2 μ2, f ρ1 μ = some (.next, ρ2, μ2) ∧ P ρ2 μ2) →
    ∃ ρ' μ', forM b f ds ρ μ = some (.next, ρ', μ') ∧ P ρ' μ'
  | [], ρ, μ, hp, _ => ⟨ρ, μ, rfl, hp⟩
  | x :: r, ρ, μ, hp, hx => by
    obtain ⟨ρ1, h1, ρ2, μ2, h2, h3⟩ := hx x (List.mem_cons_self ..) ρ μ hp
    obtain ⟨ρ', μ', q1, q2⟩ := for_inv P r ρ2 μ2 h3 fun y hy => hx y (List.mem_cons_of_mem _ hy)
    refine ⟨ρ', μ', ?_, q2⟩
    simp only [forM]
    rw [h1]
    simp only [h2]
    exact q1
/-! ### the die -/
def IsDie (μ : Store) (k : Nat) : Prop := ∃ a b c, μ[k]? = some (.shr [.int a, .int b, .int c])
/-- μ' is μ but for the die at k -/
def Cast (k : Nat) (μ μ' : Store) : Prop := ∃ a b c, μ' = μ.set k (.shr [.int a, .int b, .int c])
theorem Cast.die {k : Nat} {μ μ' : Store} (h : Cast k μ μ') (d : IsDie μ k) : IsDie μ' k := by
  obtain ⟨a, b, c, rfl⟩ := h
  obtain ⟨_, _, _, e⟩ := d
  exact ⟨a, b, c, List.getElem?_set_self (List.getElem?_eq_some_iff.mp e).1⟩
theorem Cast.trans {k : Nat} {μ μ1 μ2 : Store} (h : Cast k μ μ1) (h2 : Cast k μ1 μ2) : Cast k μ μ2 := by
  obtain ⟨a, b, c, rfl⟩ := h
  obtain ⟨a', b', c', rfl⟩ := h2
  exact ⟨a', b', c', by rw [List.set_set]⟩
theorem Cast.refl {k : Nat} {μ : Store} (d : IsDie μ k) : Cast k μ μ := by
  obtain ⟨a, b, c, e⟩ := d
  refine ⟨a, b, c, ?_⟩
  obtain ⟨hl, e⟩ := List.getElem?_eq_some_iff.mp e
  rw [← e, List.set_getElem_self]
theorem Cast.len {k : Nat} {μ μ' : Store} (h : Cast k μ μ') : μ'.length = μ.length := by
  obtain ⟨a, b, c, rfl⟩ := h
  rw [List.length_set]
theorem Cast.take {k : Nat} {μ μ' : Store} (h : Cast k μ μ') : μ'.take μ.length = μ' := by
  rw [← h.len]
  exact List.take_length
theorem frz_die {k : Nat} {μ : Store} (d : IsDie μ k) : frzD (.ref k) μ = some (.ok (.ref k), μ) := by
  obtain ⟨a, b, c, e⟩ := d
  simp only [frzD]
  rw [e]
end Sg
/-! Die: the laws' own draws (numbers, cast, pick), whatever else stands in the text. -/
namespace Sg
open PySem L2
theorem die_sub {μ : Store} {k : Nat} {xs : List D} {j : Int} {z : D} (h : μ[k]? = some (.shr xs)) (ha : atI xs j = some z) : subD μ (.ref k) (.int j) = some z := by
  show ((seqL μ (.ref k)).bind fun xs => atI xs j) = some z
  have e : seqL μ (.ref k) = some xs := by
    simp only [seqL]
    rw [h]
  rw [e]
  exact ha
theorem die_put {μ : Store} {k : Nat} {xs : List D} {j : Int} {n : Nat} {d : D} (h : μ[k]? = some (.shr xs)) (hn : d.nr = true) (hj : ixN xs.length j = some n) : putC μ (.ref k) j d = some (μ.set k (.shr (xs.set n d))) := by
  simp only [putC]
  rw [h]
  simp only [hn, if_true]
  rw [hj]
  rfl
def bCast : List S := [
  .ife (.cmp .Gt (.sub (.var 0) (.int 0)) (.int 0)) [.asg (.name 2) (.bin .Mod (.blt .int [(.sub (.var 0) (.int 0))]) (.var 1)), .put 0 (.int 0) (.bin .FloorDiv (.sub (.var 0) (.int 0)) (.var 1)), .ret (.var 2)] [],
  .put 0 (.int 2) (.bin .Add (.sub (.var 0) (.int 2)) (.int 1)),
  .asg (.name 3) (.bin .Mod (.blt .int [(.bin .Add (.sub (.var 0) (.int 1)) (.bin .Mult (.int 715827883) (.sub (.var 0) (.int 2))))]) (.int 2305843009213693907)),
  .asg (.name 4) (.bin .Add (.bin .Mult (.bin .Mod (.blt .int [(.bin .Mult (.var 3) (.var 3))]) (.int 1152921504606846719)) (.var 3)) (.bin .Mult (.int 7243) (.sub (.var 0) (.int 2)))),
  .ret (.bin .Mod (.blt .int [(.bin .FloorDiv (.bin .Mod (.blt .int [(.bin .Add (.var 4) (.sub (.var 0) (.int 1)))]) (.int 8796093022117)) (.int 128))]) (.var 1))]
/-- what a cast promises -/
def CastOk (t : List D → M D) : Prop := ∀ (k : Nat) (n : Int) (μ : Store), IsDie μ k → 0 < n → n < 1000000000 → ∃ r μ', t [.ref k, .int n] μ = some (.ok (.int r), μ') ∧ 0 ≤ r ∧ r < n ∧ Cast k μ μ'
theorem cast_ok (T : Tab) : CastOk (fnB T 5 2 bCast) := by
  intro k n μ hd hn hn2
  obtain ⟨a, b, c, hk⟩ := id hd
  have hdv : divOk n = true := div_ok hn (by omega)
  have v0 : ∀ {ρ : Rho}, ρ[0]? = some (some (.ref k)) → ∀ {μ : Store}, IsDie μ k → evalE T (.var 0) ρ μ = some (.ok (.ref k), μ) := fun h _ d => v_var h (frz_die d)
  by_cases ha : 0 < a
  · refine ⟨a % n, _, fn_ret rfl (xs_ret (x_ifT (b_cmp (k := true) (v_sub (v0 rfl hd) v_int (die_sub hk rfl)) v_int (congrArg some (decide_eq_true ha)))
      (xs_next (x_asg (v_bin (v_blt (l_cons (v_sub (v0 rfl hd) v_int (die_sub hk rfl)) l_nil) rfl) (v_var rfl rfl) (bin_mod hn)) rfl)
      (xs_next (x_put (v_bin (v_sub (v0 rfl hd) v_int (die_sub hk rfl)) (v_var rfl rfl) (bin_div hdv)) rfl v_int (die_put hk rfl rfl))
      (xs_ret (x_ret (v_var rfl rfl))))))) rfl rfl, Int.emod_nonneg _ (by omega), Int.emod_lt_of_pos _ hn, ?_⟩
    exact ⟨a / n, b, c, by rw [← List.length_set, List.take_length]; rfl⟩
  · have hk2 : (μ.set k (.shr [.int a, .int b, .int (c + 1)]))[k]? = some (.shr [.int a, .int b, .int (c + 1)]) := List.getElem?_set_self (List.getElem?_eq_some_iff.mp hk).1
    have hd2 : IsDie (μ.set k (.shr [.int a, .int b, .int (c + 1)])) k := ⟨a, b, c + 1, hk2⟩
    have h1 : ∀ x : Int, 0 ≤ x % 2305843009213693907 ∧ x % 2305843009213693907 < 2305843009213693907 := fun x => ⟨Int.emod_nonneg _ (by decide), Int.emod_lt_of_pos _ (by decide)⟩
    refine ⟨_, _, fn_ret rfl (xs_ifF (b_cmp (k := false) (v_sub (v0 rfl hd) v_int (die_sub hk rfl)) v_int (congrArg some (decide_eq_false ha)))
      (xs_next (x_put (v_bin (v_sub (v0 rfl hd) v_int (die_sub hk rfl)) v_int rfl) rfl v_int (die_put hk rfl rfl))
      (xs_next (x_asg (v_bin (v_blt (l_cons (v_bin (v_sub (v0 rfl hd2) v_int (die_sub hk2 rfl)) (v_bin v_int (v_sub (v0 rfl hd2) v_int (die_sub hk2 rfl)) (bin_mul (mul_l (by decide) (by decide)))) rfl) l_nil) rfl) v_int (bin_mod (by decide))) rfl)
      (xs_next (x_asg (v_bin (v_bin (v_bin (v_blt (l_cons (v_bin (v_var rfl rfl) (v_var rfl rfl) (bin_mul (mul_l (by have := (h1 (b + 715827883 * (c + 1))).1; omega) (by have := (h1 (b + 715827883 * (c + 1))).2; omega)))) l_nil) rfl) v_int (bin_mod (by decide))) (v_var rfl rfl) (bin_mul (mul_r (by have := (h1 (b + 715827883 * (c + 1))).1; omega) (by have := (h1 (b + 715827883 * (c + 1))).2; omega))))
        (v_bin v_int (v_sub (v0 rfl hd2) v_int (die_sub hk2 rfl)) (bin_mul (mul_l (by decide) (by decide)))) rfl) rfl)
      (xs_ret (x_ret (v_bin (v_blt (l_cons (v_bin (v_bin (v_blt (l_cons (v_bin (v_var rfl rfl) (v_sub (v0 rfl hd2) v_int (die_sub hk2 rfl)) rfl) l_nil) rfl) v_int (bin_mod (by decide))) v_int (bin_div (div_ok (by decide) (by decide)))) l_nil) rfl) (v_var rfl rfl) (bin_mod hn)))))))) rfl rfl, Int.emod_nonneg _ (by omega), Int.emod_lt_of_pos _ hn, ?_⟩
    exact ⟨a, b, c + 1, by rw [← List.length_set, List.take_length]; rfl⟩
def bPick (f : Nat) : List S := [.ret (.sub (.var 1) (.call f [(.var 0), (.blt .len [(.var 1)])]))]
/-- what a pick promises, of a list or a text that is not empty -/
def PickOk (t : List D → M D) : Prop := (∀ (k : Nat) (xs : List D) (μ : Store), IsDie μ k → xs ≠ [] → xs.length < 1000000000 → D.nrL xs = true → ∃ x μ', t [.ref k, .lst xs] μ = some (.ok x, μ') ∧ x ∈ xs ∧ Cast k μ μ') ∧
  (∀ (k : Nat) (z : Str) (μ : Store), IsDie μ k → z.length ≠ 0 → z.length ≤ 1000000 → ∃ c μ', t [.ref k, .str z] μ = some (.ok (.str ⟨#[c]⟩), μ') ∧ c ∈ z.cps.toList ∧ Cast k μ μ')
theorem atI_in {α : Type} {xs : List α} {i : Int} (h0 : 0 ≤ i) (h : i < xs.length) : ∃ x, atI xs i = some x ∧ x ∈ xs := by
  have hl : i.toNat < xs.length := by omega
  refine ⟨xs[i.toNat], ?_, List.getElem_mem _⟩
  unfold atI ixN
  rw [if_pos h0, if_pos h]
  show xs[i.toNat]? = _
  rw [List.getElem?_eq_getElem hl]
theorem D.nrL_mem {x : D} : ∀ {xs : List D}, D.nrL xs = true → x ∈ xs → x.nr = true
  | [], _, h => by cases h
  | d :: r, c, h => by
    have c' : (D.nr d && D.nrL r) = true := c
    rw [Bool.and_eq_true] at c'
    rcases List.mem_cons.mp h with rfl | h
    · exact c'.1
    · exact D.nrL_mem c'.2 h
theorem pick_ok {T : Tab} {f : Nat} {tc : List D → M D} (hf : T.fns[f]? = some tc) (hc : CastOk tc) : PickOk (fnB T 2 2 (bPick f)) := by
  refine ⟨fun k xs μ hd hne hl hnr => ?_, fun k z μ hd hne hl => ?_⟩
  · have hp : 0 < xs.length := List.length_pos_iff.mpr hne
    obtain ⟨r, μ', e, r0, r1, ca⟩ := hc k (xs.length : Int) μ hd (by omega) (by omega)
    obtain ⟨x, ex, mx⟩ := atI_in (xs := xs) r0 r1
    refine ⟨x, μ', fn_ret rfl (xs_ret (x_ret (v_sub (v_var rfl rfl) (v_call (l_cons (v_var rfl (frz_die hd)) (l_cons (v_blt (l_cons (v_var rfl rfl) l_nil) rfl) l_nil)) hf e) ?_))) (D.nrL_mem hnr mx) ca.take, mx, ca⟩
    exact ex
  · have el : (z.length : Int) = (z.cps.toList.length : Int) := by
      rw [Array.length_toList]
      rfl
    have hs : z.length ≤ sizeLine := Nat.le_trans hl (by decide)
    obtain ⟨r, μ', e, r0, r1, ca⟩ := hc k (z.length : Int) μ hd (by omega) (by omega)
    obtain ⟨c, ec, mc⟩ := atI_in (xs := z.cps.toList) r0 (by rw [← el]; exact r1)
    refine ⟨c, μ', fn_ret rfl (xs_ret (x_ret (v_sub (v_var rfl rfl) (v_call (l_cons (v_var rfl (frz_die hd)) (l_cons (v_blt (z := .int z.length) (l_cons (v_var rfl rfl) l_nil) ?_) l_nil)) hf e) ?_))) rfl ca.take, mc, ca⟩
    · show (if z.length ≤ sizeLine then some (D.int z.length) else none) = _
      rw [if_pos hs]
    · show (if z.length ≤ sizeLine then (atI z.cps.toList r).map fun c => D.str ⟨#[c]⟩ else none) = _
      rw [if_pos hs, ec]
      rfl
def bNumbers : List S := [
  .asg (.name 2) (.ite (.cmp .Lt (.var 1) (.blt .len [(.var 0)])) (.sub (.var 0) (.var 1)) (.bin .Add (.bin .Mult (.int 71) (.var 1)) (.int 29))),
  .asg (.name 3) (.bin .Mod (.blt .int [(.blt .abs [(.var 2)])]) (.bin .Pow (.bin .Pow (.int 10) (.int 57)) (.int 11))),
  .asg (.name 4) (.bin .Add (.bin .Add (.bin .Add (.bin .Mult (.var 3) (.int 1000159)) (.bin .Mult (.int 8287) (.var 1))) (.bin .Mult (.int 47) (.blt .int [(.cmp .Lt (.var 2) (.int 0))]))) (.int 11)),
  .retS [(.blt .max2 [(.int 0), (.bin .Sub (.var 3) (.bin .Pow (.int 10) (.int 16)))]), (.bin .Mod (.blt .int [(.var 4)]) (.int 1152921504606846901)), (.int 0)]]
/-- a new die -/
def NumOk (t : List D → M D) : Prop := ∀ (ns : List Int) (i : Nat) (μ : Store), i ≤ 100 → ∃ a b c, t [.rol (ns.map D.int), .int i] μ = some (.ok (.ref μ.length), μ ++ [.shr [.int a, .int b, .int c]])
theorem fnN_ret {T : Tab} {ds xs : List D} {ρ1 : Rho} {μ μ1 : Store} {k n np : Nat} {body : List S} (hl : ds.length = np) (h : execL T body (startR n ds) μ = some (.ret (.ref k), ρ1, μ1)) (hk : μ1[k]? = some (.shr xs)) (hle : μ.length ≤ k) : fnN T n np body ds μ = some (.ok (.ref μ.length), μ1.take μ.length ++ [.shr xs]) := by
  unfold fnN runN
  rw [if_pos hl, h]
  show (match μ1[k]? with
    | some (.shr xs) => if μ.length ≤ k then some (Except.ok (D.ref μ.length), μ1.take μ.length ++ [Cell.shr xs]) else none
    | _ => none) = _
  rw [hk]
  show (if μ.length ≤ k then _ else _) = _
  rw [if_pos hle]
theorem num_ok (T : Tab) : NumOk (fnN T 5 2 bNumbers) := by
  intro ns i μ hi
  obtain ⟨cell, hcell⟩ : ∃ cell : Int, evalE T (.ite (.cmp .Lt (.var 1) (.blt .len [(.var 0)])) (.sub (.var 0) (.var 1)) (.bin .Add (.bin .Mult (.int 71) (.var 1)) (.int 29))) (startR 5 [.rol (ns.map D.int), .int i]) μ = some (.ok (.int cell), μ) := by
    by_cases h : (i : Int) < ((ns.map D.int).length : Int)
    · obtain ⟨x, ex, mx⟩ := atI_in (xs := ns.map D.int) (i := (i : Int)) (by omega) h
      obtain ⟨n, _, rfl⟩ := List.mem_map.mp mx
      exact ⟨n, v_iteT (b_cmp (v_var rfl rfl) (v_blt (l_cons (v_var rfl rfl) l_nil) rfl) (congrArg some (decide_eq_true h))) (v_sub (v_var rfl rfl) (v_var rfl rfl) ex)⟩
    · exact ⟨_, v_iteF (b_cmp (v_var rfl rfl) (v_blt (l_cons (v_var rfl rfl) l_nil) rfl) (congrArg some (decide_eq_false h))) (v_bin (v_bin v_int (v_var rfl rfl) (bin_mul (mul_l (by decide) (by decide)))) v_int rfl)⟩
  have hp : (0 : Int) < ((10 : Int) ^ (57 : Int).toNat) ^ (11 : Int).toNat := by decide +kernel
  exact ⟨_, _, 0, (fnN_ret (k := μ.length) rfl (xs_next (x_asg hcell rfl)
    (xs_next (x_asg (v_bin (v_blt (l_cons (v_blt (l_cons (v_var rfl rfl) l_nil) rfl) l_nil) rfl) (v_bin (v_bin v_int v_int (bin_pow (by decide +kernel))) v_int (bin_pow (by decide +kernel))) (bin_mod hp)) rfl)
    (xs_next (x_asg (v_bin (v_bin (v_bin (v_bin (v_var rfl rfl) v_int (bin_mul (mul_r (by decide) (by decide)))) (v_bin v_int (v_var rfl rfl) (bin_mul (mul_l (by decide) (by decide)))) rfl) (v_bin v_int (v_blt (l_cons (v_cmp (v_var rfl rfl) v_int rfl) l_nil) rfl) (bin_mul (mul_l (by decide) (by decide)))) rfl) v_int rfl) rfl)
    (xs_ret (x_retS (l_cons (v_blt (l_cons v_int (l_cons (v_bin (v_var rfl rfl) (v_bin v_int v_int (bin_pow (by decide +kernel))) rfl) l_nil)) rfl) (l_cons (v_bin (v_blt (l_cons (v_var rfl rfl) l_nil) rfl) v_int (bin_mod (by decide))) (l_cons v_int l_nil))) (show 3 ≤ sizeLine by decide) rfl))))) (by
    rw [List.getElem?_append_right (Nat.le_refl _), Nat.sub_self]
    rfl) (Nat.le_refl _)).trans (by rw [List.take_append_of_le_length (Nat.le_refl _), List.take_length])⟩
end Sg
namespace Lw
open PySem L2 Sg
/-- the constants of the text -/
def cs : List D := [.str "abcdefghijklmnopqrstuvwxyz", .int 8]
/-- is_name -/
def n_is_name : List Str := ["value", "letter"]
def b_is_name : List S := [
  .ife (.or (.not (.val (.isi (.var 0) (.ty "str")))) (.not (.chain .Lt .LtE (.int 0) (.blt .len [(.var 0)]) (.gcon 1)))) [.ret (.bl false)] [],
  .ret (.blt .all [(.lc [1] (.name 1) (.val (.var 0)) [] (.cmp .In (.var 1) (.gcon 0)))])]
def t_is_name : List D → M D := fnB ⟨[], cs⟩ 2 1 b_is_name
/-- law_numbers -/
def n_law_numbers : List Str := ["_law_script", "_law_at", "_law_cell", "_law_whole", "_law_mixed"]
def b_law_numbers : List S := [
  .asg (.name 2) (.ite (.cmp .Lt (.var 1) (.blt .len [(.var 0)])) (.sub (.var 0) (.var 1)) (.bin .Add (.bin .Mult (.int 71) (.var 1)) (.int 29))),
  .asg (.name 3) (.bin .Mod (.blt .int [(.blt .abs [(.var 2)])]) (.bin .Pow (.bin .Pow (.int 10) (.int 57)) (.int 11))),
  .asg (.name 4) (.bin .Add (.bin .Add (.bin .Add (.bin .Mult (.var 3) (.int 1000159)) (.bin .Mult (.int 8287) (.var 1))) (.bin .Mult (.int 47) (.blt .int [(.cmp .Lt (.var 2) (.int 0))]))) (.int 11)),
  .retS [(.blt .max2 [(.int 0), (.bin .Sub (.var 3) (.bin .Pow (.int 10) (.int 16)))]), (.bin .Mod (.blt .int [(.var 4)]) (.int 1152921504606846901)), (.int 0)]]
def t_law_numbers : List D → M D := fnN ⟨[t_is_name], cs⟩ 5 2 b_law_numbers
/-- law_cast -/
def n_law_cast : List Str := ["_law_die", "_law_total", "_law_found", "_law_one", "_law_two"]
def b_law_cast : List S := [
  .ife (.cmp .Gt (.sub (.var 0) (.int 0)) (.int 0)) [.asg (.name 2) (.bin .Mod (.blt .int [(.sub (.var 0) (.int 0))]) (.var 1)), .put 0 (.int 0) (.bin .FloorDiv (.sub (.var 0) (.int 0)) (.var 1)), .ret (.var 2)] [],
  .put 0 (.int 2) (.bin .Add (.sub (.var 0) (.int 2)) (.int 1)),
  .asg (.name 3) (.bin .Mod (.blt .int [(.bin .Add (.sub (.var 0) (.int 1)) (.bin .Mult (.int 715827883) (.sub (.var 0) (.int 2))))]) (.int 2305843009213693907)),
  .asg (.name 4) (.bin .Add (.bin .Mult (.bin .Mod (.blt .int [(.bin .Mult (.var 3) (.var 3))]) (.int 1152921504606846719)) (.var 3)) (.bin .Mult (.int 7243) (.sub (.var 0) (.int 2)))),
  .ret (.bin .Mod (.blt .int [(.bin .FloorDiv (.bin .Mod (.blt .int [(.bin .Add (.var 4) (.sub (.var 0) (.int 1)))]) (.int 8796093022117)) (.int 128))]) (.var 1))]
def t_law_cast : List D → M D := fnB ⟨[t_is_name, t_law_numbers], cs⟩ 5 2 b_law_cast
/-- law_pick -/
def n_law_pick : List Str := ["_law_die", "_law_items"]
def b_law_pick : List S := [
  .ret (.sub (.var 1) (.call 2 [(.var 0), (.blt .len [(.var 1)])]))]
def t_law_pick : List D → M D := fnB ⟨[t_is_name, t_law_numbers, t_law_cast], cs⟩ 2 2 b_law_pick
/-- law_odd_one -/
def n_law_odd_one : List Str := ["_law_die", "_law_some"]
def b_law_odd_one : List S := [
  .asg (.name 1) (.lst [.non, (.int 0), (.int 1), (.int 7), (.int 99), (.neg (.int 1)), (.bl true), (.bl false), (.str ""), (.str "a"), (.str "B"), (.str "abcdefghi"), (.tup []), (.tup [(.int 0)]), (.tup [(.int 1), (.int 0)]), (.tup [(.int 0), (.int 0)]), (.lst [(.int 0)]), .emp, (.str "p")]),
  .asg (.name 1) (.bin .Add (.var 1) (.lst [(.bin .Pow (.int 10) (.int 39)), (.tup [.non]), (.tup [(.tup [(.int 0), (.int 1)])]), (.tup [(.tup [(.int 0), (.int 1)]), (.tup [(.int 0), (.int 1)])]), (.tup [(.str "a")]), (.tup [(.int 0), (.int 1)]), (.tup [(.int 1), (.int 2)]), (.tup [(.str "row"), (.int 1)]), (.lst [(.tup [(.int 0), (.int 1)])])])),
  .ret (.call 3 [(.var 0), (.var 1)])]
def t_law_odd_one : List D → M D := fnB ⟨[t_is_name, t_law_numbers, t_law_cast, t_law_pick], cs⟩ 2 1 b_law_odd_one
/-- law_is_word -/
def n_law_is_word : List Str := ["_law_value", "_law_one"]
def b_law_is_word : List S := [
  .ife (.or (.not (.val (.isi (.var 0) (.ty "str")))) (.not (.chain .LtE .LtE (.int 1) (.blt .len [(.var 0)]) (.int 8)))) [.ret (.bl false)] [],
  .ret (.cmp .Eq (.lc [1] (.name 1) (.val (.var 0)) [(.not (.chain .LtE .LtE (.str "a") (.var 1) (.str "z")))] (.var 1)) (.lst []))]
def t_law_is_word : List D → M D := fnB ⟨[t_is_name, t_law_numbers, t_law_cast, t_law_pick, t_law_odd_one], cs⟩ 2 1 b_law_is_word
/-- law_right -/
def n_law_right : List Str := ["_law_die", "_law_letters", "_law_word", "_law_at", "_law_odd", "_law_some", "_law_value", "_law_turn"]
def b_law_right : List S := [
  .asg (.name 1) (.str "abcdefghijklmnopqrstuvwxyz"),
  .asg (.name 2) (.mth .join (.str "") [(.lc [7] (.name 7) (.rng1 (.call 2 [(.var 0), (.int 10)])) [] (.call 3 [(.var 0), (.var 1)]))]),
  .par 3 4 (.call 2 [(.var 0), (.bin .Add (.blt .len [(.var 2)]) (.int 1))]) (.call 3 [(.var 0), (.lst [(.str "A"), (.str " "), (.str "0"), (.str "_"), (.str "-"), (.str "{"), (.str "`"), (.str "\n"), (.str "z"), (.str "aa")])]),
  .asg (.name 5) (.lst [(.var 2), (.bin .Add (.bin .Add (.slc (.var 2) none (some (.var 3))) (.var 4)) (.slc (.var 2) (some (.var 3)) none)), (.slc (.var 2) none (some (.var 3))), (.mth .upper (.var 2) []), (.bin .Add (.var 2) (.var 2)), (.lst [(.var 2)]), (.tup [(.var 2)]), (.call 4 [(.var 0)])]),
  .for (.name 6) (.val (.var 5)) [.ife (.cmp .NotEq (.blt .repr [(.call 0 [(.var 6)])]) (.blt .repr [(.call 5 [(.var 6)])])) [.ret (.bl false)] []],
  .ret (.bl true)]
def t_law_right : List D → M D := fnB ⟨[t_is_name, t_law_numbers, t_law_cast, t_law_pick, t_law_odd_one, t_law_is_word], cs⟩ 8 1 b_law_right
/-- law -/
def n_law : List Str := ["_law_script", "_law_at", "_law_die", "_law_turn", "_law_told", "_law_word"]
def b_law : List S := [
  .for (.name 1) (.rng1 (.blt .max2 [(.int 1), (.blt .min2 [(.int 8), (.blt .len [(.var 0)])])])) [.asg (.name 2) (.call 1 [(.var 0), (.var 1)]), .for (.name 3) (.rng1 (.int 6)) [.ife (.not (.val (.call 6 [(.var 2)]))) [.ret (.bl false)] []]],
  .asg (.name 4) (.lc [5] (.name 5) (.val (.tup [(.str "a"), (.str "zzzzzzzz"), (.str "aaaaaaaaa"), (.str ""), (.str "ways"), (.str "Row"), (.str "a1"), (.str "property")])) [] (.call 0 [(.var 5)])),
  .ret (.cmp .Eq (.var 4) (.lst [(.bl true), (.bl true), (.bl false), (.bl false), (.bl true), (.bl false), (.bl false), (.bl true)]))]
def t_law : List D → M D := fnB ⟨[t_is_name, t_law_numbers, t_law_cast, t_law_pick, t_law_odd_one, t_law_is_word, t_law_right], cs⟩ 6 1 b_law
end Lw
namespace Sg
open PySem L2
/-- a text of few plain signs -/
def Asc (z : Str) : Prop := z.length ≤ 1000 ∧ ∀ c ∈ z.cps.toList, c < 128
theorem asc_size {z : Str} (h : Asc z) : z.length ≤ sizeLine := Nat.le_trans h.1 (by decide)
def isiB (a b : String) : Option Bool := if b ∈ ["int", "str", "tuple", "list", "dict", "bool"] then some (decide (a = b) || (decide (a = "bool") && decide (b = "int"))) else none
theorem isi_by {d : D} {a b : String} {r : Bool} (h : tyD d = some (.ty a)) (hb : isiB a b = some r) : isiD d (.ty b) = some r := by
  unfold isiD
  rw [h]
  exact hb
theorem len_str {z : Str} {μ : Store} (h : z.length ≤ sizeLine) : bltD μ .len [.str z] = some (.int z.length) := by
  show (if z.length ≤ sizeLine then _ else _) = _
  rw [if_pos h]
/-- a comprehension over things that are made of cs -/
theorem lc_mapc {α : Type} {b : D → Option Rho} {f : Rho → M Bool} {e : Rho → M D} {μ : Store} (g h : α → D) : ∀ (cs : List α), (∀ c ∈ cs, ∃ ρ, b (g c) = some ρ ∧ f ρ μ = some (.ok true, μ) ∧ e ρ μ = some (.ok (h c), μ)) → lcM b f e (cs.map g) μ = some (.ok (cs.map h), μ)
  | [], _ => rfl
  | c :: r, hx => by
    obtain ⟨ρ, h1, h2, h3⟩ := hx c (List.mem_cons_self ..)
    have ih := lc_mapc g h r fun y hy => hx y (List.mem_cons_of_mem _ hy)
    simp only [lcM, List.map_cons]
    rw [h1]
    exact bd_of h2 (bd_of h3 (bd_of ih rfl))
theorem lc_filc {α : Type} {b : D → Option Rho} {f : Rho → M Bool} {e : Rho → M D} {μ : Store} (p : α → Bool) (g h : α → D) : ∀ (cs : List α), (∀ c ∈ cs, ∃ ρ, b (g c) = some ρ ∧ f ρ μ = some (.ok (p c), μ) ∧ e ρ μ = some (.ok (h c), μ)) → lcM b f e (cs.map g) μ = some (.ok ((cs.filter p).map h), μ)
  | [], _ => rfl
  | c :: r, hx => by
    obtain ⟨ρ, h1, h2, h3⟩ := hx c (List.mem_cons_self ..)
    have ih := lc_filc p g h r fun y hy => hx y (List.mem_cons_of_mem _ hy)
    simp only [lcM, List.map_cons]
    rw [h1]
    refine bd_of h2 ?_
    cases hp : p c with
    | true =>
      rw [List.filter_cons_of_pos hp]
      exact bd_of h3 (bd_of ih rfl)
    | false =>
      rw [List.filter_cons_of_neg (by rw [hp]; exact Bool.false_ne_true)]
      exact ih
theorem bls_map {α : Type} (f : α → Bool) : ∀ cs : List α, bls? (cs.map fun c => D.bl (f c)) = some (cs.map f)
  | [] => rfl
  | c :: r => by
    show (bls? (r.map fun c => D.bl (f c))).map (f c :: ·) = _
    rw [bls_map f r]
    rfl
theorem all_map {α : Type} {μ : Store} (f : α → Bool) (cs : List α) : bltD μ .all [.lst (cs.map fun c => D.bl (f c))] = some (.bl (cs.all f)) := by
  show (bls? (cs.map fun c => D.bl (f c))).map _ = _
  rw [bls_map]
  show some (D.bl ((cs.map f).all id)) = _
  rw [List.all_map]
  rfl
/-- == of a list of signs with [] -/
theorem eq_nil {cs : List Nat} (h : ∀ c ∈ cs, c < 128) : eqD (.lst (cs.map fun c => D.str ⟨#[c]⟩)) (.lst []) = some cs.isEmpty := by
  have hpy : ∀ cs : List Nat, D.pyL (cs.map fun c => D.str ⟨#[c]⟩) = some (cs.map fun c => PyData.str ⟨#[c]⟩) := by
    intro cs
    induction cs with
    | nil => rfl
    | cons c r ih =>
      simp only [List.map_cons, D.pyL, D.py]
      rw [ih]
  have hlay : ∀ cs : List Nat, (∀ c ∈ cs, c < 128) → PyData.canLayAll0 (cs.map fun c => PyData.str ⟨#[c]⟩) = true := by
    intro cs
    induction cs with
    | nil => intro _; rfl
    | cons c r ih =>
      intro h
      simp only [List.map_cons, PyData.canLayAll0, PyData.canLay0]
      rw [ih fun x hx => h x (List.mem_cons_of_mem _ hx)]
      have := h c (List.mem_cons_self ..)
      have e : PyData.strOk ⟨#[c]⟩ = true := by
        unfold PyData.strOk
        simp
        omega
      rw [e]
      rfl
  have hdep : ∀ cs : List Nat, PyData.depthAll (cs.map fun c => PyData.str ⟨#[c]⟩) ≤ 1 := by
    intro cs
    induction cs with
    | nil => decide
    | cons c r ih =>
      simp only [List.map_cons, PyData.depthAll, PyData.depth]
      omega
  unfold eqD
  simp only [D.py]
  rw [hpy]
  have s1 : SeqAt.shaped (.list (cs.map fun c => PyData.str ⟨#[c]⟩)) = true := by
    unfold SeqAt.shaped
    simp only [PyData.canLay0, PyData.depth]
    rw [hlay cs h]
    have := hdep cs
    simp
    omega
  have s2 : SeqAt.shaped (.list []) = true := by decide
  show (if SeqAt.shaped (.list (cs.map fun c => PyData.str ⟨#[c]⟩)) && SeqAt.shaped (.list []) then some (PyData.eqv _ _) else none) = _
  rw [s1, s2]
  cases cs with
  | nil => rfl
  | cons c r => rfl
end Sg
namespace Lw
open PySem L2 Sg
def isLow (c : Nat) : Bool := decide (97 ≤ c) && decide (c ≤ 122)
def nameD : D → Bool
  | .str z => decide (0 < z.length) && decide (z.length ≤ 8) && z.cps.toList.all isLow
  | _ => false
/-- a value that is asked: plain, a text of few plain signs -/
def Ask (d : D) : Prop := d.nr = true ∧ (∃ t, tyD d = some (.ty t) ∧ (t = "str" → ∃ z, d = .str z ∧ Asc z))
theorem low_letters (c : Nat) : decide (c ∈ ("abcdefghijklmnopqrstuvwxyz" : Str).cps.toList) = isLow c := by
  have e : ("abcdefghijklmnopqrstuvwxyz" : Str).cps.toList = List.range' 97 26 := by decide +kernel
  rw [e]
  unfold isLow
  rw [Bool.eq_iff_iff]
  simp only [decide_eq_true_eq, Bool.and_eq_true, List.mem_range'_1]
  omega
theorem low_between (c : Nat) : ((!decide ((⟨#[c]⟩ : Str).cps.toList < ("a" : Str).cps.toList)) && (!decide (("z" : Str).cps.toList < (⟨#[c]⟩ : Str).cps.toList))) = isLow c := by
  have e1 : ("a" : Str).cps.toList = [97] := by decide +kernel
  have e2 : ("z" : Str).cps.toList = [122] := by decide +kernel
  rw [e1, e2]
  unfold isLow
  rw [Bool.eq_iff_iff]
  have h1 : ([c] < [97]) ↔ c < 97 := by simp [List.cons_lt_cons_iff]
  have h2 : ([122] < [c]) ↔ 122 < c := by simp [List.cons_lt_cons_iff]
  show ((!decide ([c] < [97])) && (!decide ([122] < [c]))) = true ↔ _
  simp only [Bool.and_eq_true, Bool.not_eq_true', decide_eq_false_iff_not, decide_eq_true_eq, h1, h2]
  omega
theorem other_ty {d : D} {t : String} (h : tyD d = some (.ty t)) (hn : t ≠ "str") : isiD d (.ty "str") = some false := by
  have hm := tyD_mem h
  simp only [List.mem_cons, List.not_mem_nil, or_false] at hm
  rcases hm with rfl | rfl | rfl | rfl | rfl | rfl | rfl
  · exact isi_by h (by decide)
  · exact isi_by h (by decide)
  · exact isi_by h (by decide)
  · exact absurd rfl hn
  · exact isi_by h (by decide)
  · exact isi_by h (by decide)
  · exact isi_by h (by decide)
theorem name_other {d : D} {t : String} (h : tyD d = some (.ty t)) (hn : t ≠ "str") : nameD d = false := by
  cases d <;> first | rfl | exact absurd (Ty.ty.inj (Option.some.inj h)).symm hn
theorem is_name_ok {d : D} (h : Ask d) (μ : Store) : t_is_name [d] μ = some (.ok (.bl (nameD d)), μ) := by
  obtain ⟨hnr, t, ht, hs⟩ := h
  by_cases e : t = "str"
  · obtain ⟨z, rfl, ha⟩ := hs e
    have hlen := len_str (μ := μ) (asc_size ha)
    have tst : evalT ⟨[], cs⟩ (.or (.not (.val (.isi (.var 0) (.ty "str")))) (.not (.chain .Lt .LtE (.int 0) (.blt .len [(.var 0)]) (.gcon 1)))) (startR 2 [.str z]) μ = some (.ok (!(decide (0 < (z.length : Int)) && decide ((z.length : Int) ≤ 8))), μ) :=
      b_orF (b_not (b_val (k := true) (v_isi (v_var rfl rfl) (isi_by rfl (by decide))) rfl)) (b_not (b_chain v_int (v_blt (l_cons (v_var rfl rfl) l_nil) hlen) rfl (v_gcon rfl) rfl))
    by_cases hz : 0 < z.length ∧ z.length ≤ 8
    · have e1 : (!(decide (0 < (z.length : Int)) && decide ((z.length : Int) ≤ 8))) = false := by
        rw [decide_eq_true (by omega), decide_eq_true (by omega)]
        rfl
      rw [e1] at tst
      have en : nameD (.str z) = z.cps.toList.all fun c => decide (c ∈ ("abcdefghijklmnopqrstuvwxyz" : Str).cps.toList) := by
        have : (fun c => decide (c ∈ ("abcdefghijklmnopqrstuvwxyz" : Str).cps.toList)) = isLow := funext low_letters
        rw [this]
        show (decide (0 < z.length) && decide (z.length ≤ 8) && _) = _
        rw [decide_eq_true hz.1, decide_eq_true hz.2]
        rfl
      rw [en]
      refine fn_ret rfl (xs_ifF tst (xs_ret (x_ret (v_blt (l_cons (v_lc (i_val (v_var rfl rfl) rfl) (lc_mapc (fun c => D.str ⟨#[c]⟩) (fun c => D.bl (decide (c ∈ ("abcdefghijklmnopqrstuvwxyz" : Str).cps.toList))) _ fun c hc => ⟨_, rfl, bs_nil, v_cmp (v_var rfl rfl) (v_gcon rfl) rfl⟩) ?_) l_nil) (all_map _ _))))) rfl (List.take_length)
      rw [List.length_map, Array.length_toList]
      exact asc_size ha
    · have e1 : (!(decide (0 < (z.length : Int)) && decide ((z.length : Int) ≤ 8))) = true := by
        rw [Bool.not_eq_true', Bool.and_eq_false_iff]
        by_cases q : 0 < z.length
        · exact .inr (decide_eq_false (by omega))
        · exact .inl (decide_eq_false (by omega))
      rw [e1] at tst
      have en : nameD (.str z) = false := by
        show (decide (0 < z.length) && decide (z.length ≤ 8) && _) = _
        by_cases q : 0 < z.length
        · rw [decide_eq_false (p := z.length ≤ 8) (by omega), Bool.and_false, Bool.false_and]
        · rw [decide_eq_false q, Bool.false_and, Bool.false_and]
      rw [en]
      exact fn_ret rfl (xs_ret (x_ifT tst (xs_ret (x_ret v_bl)))) rfl List.take_length
  · rw [name_other ht e]
    exact fn_ret rfl (xs_ret (x_ifT (b_orT (b_not (b_val (k := false) (v_isi (v_var rfl (frz_nr hnr)) (other_ty ht e)) rfl))) (xs_ret (x_ret v_bl)))) rfl List.take_length
theorem is_word_ok {d : D} (h : Ask d) (μ : Store) : t_law_is_word [d] μ = some (.ok (.bl (nameD d)), μ) := by
  obtain ⟨hnr, t, ht, hs⟩ := h
  by_cases e : t = "str"
  · obtain ⟨z, rfl, ha⟩ := hs e
    have hlen := len_str (μ := μ) (asc_size ha)
    have tst : ∀ T, evalT T (.or (.not (.val (.isi (.var 0) (.ty "str")))) (.not (.chain .LtE .LtE (.int 1) (.blt .len [(.var 0)]) (.int 8)))) (startR 2 [.str z]) μ = some (.ok (!(decide (1 ≤ (z.length : Int)) && decide ((z.length : Int) ≤ 8))), μ) := fun T =>
      b_orF (b_not (b_val (k := true) (v_isi (v_var rfl rfl) (isi_by rfl (by decide))) rfl)) (b_not (b_chain v_int (v_blt (l_cons (v_var rfl rfl) l_nil) hlen) rfl v_int rfl))
    by_cases hz : 0 < z.length ∧ z.length ≤ 8
    · have e1 : (!(decide (1 ≤ (z.length : Int)) && decide ((z.length : Int) ≤ 8))) = false := by
        rw [decide_eq_true (by omega), decide_eq_true (by omega)]
        rfl
      rw [e1] at tst
      have en : nameD (.str z) = (z.cps.toList.filter fun c => !isLow c).isEmpty := by
        show (decide (0 < z.length) && decide (z.length ≤ 8) && _) = _
        rw [decide_eq_true hz.1, decide_eq_true hz.2, Bool.true_and, Bool.true_and, Bool.eq_iff_iff, List.all_eq_true, List.isEmpty_iff, List.filter_eq_nil_iff]
        constructor
        · intro h c hc
          rw [h c hc]
          decide
        · intro h c hc
          have := h c hc
          simpa using this
      rw [en]
      refine fn_ret rfl (xs_ifF (tst _) (xs_ret (x_ret (v_cmp (v_lc (i_val (v_var rfl rfl) rfl) (lc_filc (fun c => !isLow c) (fun c => D.str ⟨#[c]⟩) (fun c => D.str ⟨#[c]⟩) _ fun c hc => ⟨_, rfl, bs_one ?_, v_var rfl rfl⟩) ?_) (v_lst l_nil (Nat.zero_le _)) (eq_nil fun c hc => ha.2 c (List.mem_filter.mp hc).1))))) rfl List.take_length
      · rw [← low_between c]
        exact b_not (b_chain v_str (v_var rfl rfl) rfl v_str rfl)
      · rw [List.length_map]
        refine Nat.le_trans (List.length_filter_le _ _) ?_
        rw [Array.length_toList]
        exact asc_size ha
    · have e1 : (!(decide (1 ≤ (z.length : Int)) && decide ((z.length : Int) ≤ 8))) = true := by
        rw [Bool.not_eq_true', Bool.and_eq_false_iff]
        by_cases q : 0 < z.length
        · exact .inr (decide_eq_false (by omega))
        · exact .inl (decide_eq_false (by omega))
      rw [e1] at tst
      have en : nameD (.str z) = false := by
        show (decide (0 < z.length) && decide (z.length ≤ 8) && _) = _
        by_cases q : 0 < z.length
        · rw [decide_eq_false (p := z.length ≤ 8) (by omega), Bool.and_false, Bool.false_and]
        · rw [decide_eq_false q, Bool.false_and, Bool.false_and]
      rw [en]
      exact fn_ret rfl (xs_ret (x_ifT (tst _) (xs_ret (x_ret v_bl)))) rfl List.take_length
  · rw [name_other ht e]
    exact fn_ret rfl (xs_ret (x_ifT (b_orT (b_not (b_val (k := false) (v_isi (v_var rfl (frz_nr hnr)) (other_ty ht e)) rfl))) (xs_ret (x_ret v_bl)))) rfl List.take_length

theorem cast1 : CastOk t_law_cast := cast_ok _
theorem pick1 : PickOk t_law_pick := pick_ok (f := 2) rfl cast1
theorem num1 : NumOk t_law_numbers := num_ok _
theorem ask_other {d : D} {t : String} (h : d.nr = true) (ht : tyD d = some (.ty t)) (hn : t ≠ "str") : Ask d := ⟨h, t, ht, fun e => absurd e hn⟩
theorem ask_str {z : Str} (h : Asc z) : Ask (.str z) := ⟨rfl, "str", rfl, fun _ => ⟨z, rfl, h⟩⟩
theorem asc_of {z : Str} (h : (decide (z.length ≤ 1000) && z.cps.toList.all fun c => decide (c < 128)) = true) : Asc z := by
  rw [Bool.and_eq_true, List.all_eq_true] at h
  exact ⟨of_decide_eq_true h.1, fun c hc => of_decide_eq_true (h.2 c hc)⟩
def askB : D → Bool
  | .str z => decide (z.length ≤ 1000) && z.cps.toList.all fun c => decide (c < 128)
  | .ref _ => false
  | .rol _ => false
  | .ins _ _ => false
  | d => d.nr
theorem ask_by : ∀ {d : D}, askB d = true → Ask d
  | .non, h => ask_other rfl rfl (by decide)
  | .bl _, h => ask_other rfl rfl (by decide)
  | .int _, h => ask_other rfl rfl (by decide)
  | .str z, h => ask_str (asc_of h)
  | .tup xs, h => ask_other h rfl (by decide)
  | .lst xs, h => ask_other h rfl (by decide)
  | .dic ks xs, h => ask_other h rfl (by decide)
  | .ref _, h => by cases h
  | .rol _, h => by cases h
  | .ins _ _, h => by cases h
/-- the values of the law's list -/
def odds : List D := [.non, .int 0, .int 1, .int 7, .int 99, .int (-1), .bl true, .bl false, .str "", .str "a", .str "B", .str "abcdefghi", .tup [], .tup [.int 0], .tup [.int 1, .int 0], .tup [.int 0, .int 0], .lst [.int 0], .dic [] [], .str "p",
  .int (10 ^ 39), .tup [.non], .tup [.tup [.int 0, .int 1]], .tup [.tup [.int 0, .int 1], .tup [.int 0, .int 1]], .tup [.str "a"], .tup [.int 0, .int 1], .tup [.int 1, .int 2], .tup [.str "row", .int 1], .lst [.tup [.int 0, .int 1]]]
theorem sz2 {n : Nat} (h : n ≤ 1000) : n ≤ sizeLine := Nat.le_trans h (by decide)
theorem sz3 {n : Nat} (h : Nat.ble n 1000 = true) : n ≤ sizeLine := sz2 (Nat.le_of_ble_eq_true h)
theorem bin_cat {a b : List D} (h : a.length + b.length ≤ sizeLine) : binD .Add (.lst a) (.lst b) = some (.lst (a ++ b)) := by
  show (if a.length + b.length ≤ sizeLine then _ else _) = _
  rw [if_pos h]
theorem odd_ok (k : Nat) (μ : Store) (hd : IsDie μ k) : ∃ d μ', t_law_odd_one [.ref k] μ = some (.ok d, μ') ∧ Ask d ∧ Cast k μ μ' := by
  obtain ⟨x, μ', e, mx, ca⟩ := pick1.1 k odds μ hd (by decide) (by decide) (by decide +kernel)
  have hall : odds.all askB = true := by decide +kernel
  refine ⟨x, μ', fn_ret rfl (xs_next (x_asg (v_lst (l_cons v_non (l_cons v_int (l_cons v_int (l_cons v_int (l_cons v_int (l_cons (v_neg v_int) (l_cons v_bl (l_cons v_bl (l_cons v_str (l_cons v_str (l_cons v_str (l_cons v_str (l_cons (v_tup l_nil (sz2 (by decide))) (l_cons (v_tup (l_cons v_int l_nil) (sz2 (by decide))) (l_cons (v_tup (l_cons v_int (l_cons v_int l_nil)) (sz2 (by decide))) (l_cons (v_tup (l_cons v_int (l_cons v_int l_nil)) (sz2 (by decide))) (l_cons (v_lst (l_cons v_int l_nil) (sz2 (by decide))) (l_cons v_emp (l_cons v_str l_nil))))))))))))))))))) (sz2 (by decide))) rfl)
    (xs_next (x_asg (v_bin (v_var rfl rfl) (v_lst (l_cons (v_bin v_int v_int (bin_pow (by decide +kernel))) (l_cons (v_tup (l_cons v_non l_nil) (sz2 (by decide))) (l_cons (v_tup (l_cons (v_tup (l_cons v_int (l_cons v_int l_nil)) (sz2 (by decide))) l_nil) (sz2 (by decide))) (l_cons (v_tup (l_cons (v_tup (l_cons v_int (l_cons v_int l_nil)) (sz2 (by decide))) (l_cons (v_tup (l_cons v_int (l_cons v_int l_nil)) (sz2 (by decide))) l_nil)) (sz2 (by decide))) (l_cons (v_tup (l_cons v_str l_nil) (sz2 (by decide))) (l_cons (v_tup (l_cons v_int (l_cons v_int l_nil)) (sz2 (by decide))) (l_cons (v_tup (l_cons v_int (l_cons v_int l_nil)) (sz2 (by decide))) (l_cons (v_tup (l_cons v_str (l_cons v_int l_nil)) (sz2 (by decide))) (l_cons (v_lst (l_cons (v_tup (l_cons v_int (l_cons v_int l_nil)) (sz2 (by decide))) l_nil) (sz2 (by decide))) l_nil))))))))) (sz2 (by decide))) (show binD .Add _ _ = some (D.lst odds) from bin_cat (sz2 (by decide)))) rfl)
    (xs_ret (x_ret (v_call (l_cons (v_var rfl (frz_die hd)) (l_cons (v_var rfl rfl) l_nil)) rfl e))))) ?_ ca.take, ask_by (List.all_eq_true.mp hall x mx), ca⟩
  exact D.nrL_mem (by decide +kernel) mx

theorem bin_strs {a b : Str} (h : a.length + b.length ≤ sizeLine) : binD .Add (.str a) (.str b) = some (.str (a ++ b)) := by
  show (if a.length + b.length ≤ sizeLine then _ else _) = _
  rw [if_pos h]
theorem slc_str {z : Str} {lo hi : Option Int} (h : z.length ≤ sizeLine) : slcD (.str z) lo hi = some (.str (cutS z lo hi)) := by
  show (if z.length ≤ sizeLine then _ else _) = _
  rw [if_pos h]
theorem cut_asc {z : Str} {lo hi : Option Int} (h : Asc z) : Asc (cutS z lo hi) ∧ (cutS z lo hi).length ≤ z.length := by
  have hl : (cutS z lo hi).length ≤ z.length := by
    show (List.toArray _).size ≤ z.cps.size
    rw [List.size_toArray, List.length_take, List.length_drop, Array.length_toList]
    omega
  refine ⟨⟨Nat.le_trans hl h.1, fun c hc => ?_⟩, hl⟩
  unfold cutS at hc
  rw [List.toList_toArray] at hc
  exact h.2 c (List.mem_of_mem_drop (List.mem_of_mem_take hc))
theorem len_app (a b : Str) : (a ++ b).length = a.length + b.length := by
  show (a.cps ++ b.cps).size = _
  rw [Array.size_append]
  rfl
theorem app_asc {a b : Str} (ha : Asc a) (hb : Asc b) (h : a.length + b.length ≤ 1000) : Asc (a ++ b) := by
  refine ⟨by rw [len_app]; exact h, fun c hc => ?_⟩
  have hc : c ∈ (a.cps ++ b.cps).toList := hc
  rw [Array.toList_append, List.mem_append] at hc
  rcases hc with hc | hc
  · exact ha.2 c hc
  · exact hb.2 c hc
theorem up_asc {z : Str} (h : Asc z) (h9 : z.length ≤ 9) : Asc (Txt.upper z) := by
  have hl : (Txt.upper z).length ≤ 3 * z.length := StrLaws.placedRaw_le3 z.cps (fun _ c => Unicode.upperOf c) fun _ c => StrLaws.upperOf_le3 c
  refine ⟨by omega, fun c hc => ?_⟩
  have key : ∀ c < 128, ∀ d ∈ Unicode.upperOf c, d < 128 := by decide +kernel
  have hc : c ∈ ((z.cps.mapIdx fun _ c => (Unicode.upperOf c).toArray).flatten).toList := hc
  rw [Array.mem_toList_iff, Array.mem_flatten] at hc
  obtain ⟨xs, hx, hc⟩ := hc
  rw [Array.mem_mapIdx] at hx
  obtain ⟨i, hi, rfl⟩ := hx
  have hm : z.cps[i] ∈ z.cps.toList := by
    rw [Array.mem_toList_iff]
    exact Array.getElem_mem hi
  exact key _ (h.2 _ hm) c (by simpa using hc)
/-- a word of signs, each of a list -/
theorem join_asc : ∀ (ys : List Str), (∀ y ∈ ys, y.length = 1 ∧ Asc y) → ys.length ≤ 1000 → Asc (Txt.join "" ys) ∧ (Txt.join "" ys).length = ys.length := by
  intro ys h hl
  have key : ∀ (ys : List Str) (acc : Array Nat), (∀ y ∈ ys, y.length = 1 ∧ Asc y) → (∀ c ∈ acc.toList, c < 128) → (∀ c ∈ (ys.foldl (fun acc p => acc ++ ("" : Str).cps ++ p.cps) acc).toList, c < 128) ∧ (ys.foldl (fun acc p => acc ++ ("" : Str).cps ++ p.cps) acc).size = acc.size + ys.length := by
    intro ys
    induction ys with
    | nil => intro acc _ ha; exact ⟨ha, rfl⟩
    | cons y r ih =>
      intro acc hy ha
      have e0 : ("" : Str).cps = #[] := by decide +kernel
      obtain ⟨y1, y2⟩ := hy y (List.mem_cons_self ..)
      have y1 : y.cps.size = 1 := y1
      rw [List.foldl_cons]
      obtain ⟨q1, q2⟩ := ih (acc ++ ("" : Str).cps ++ y.cps) (fun z hz => hy z (List.mem_cons_of_mem _ hz)) fun c hc => by
        rw [e0, Array.append_empty, Array.toList_append, List.mem_append] at hc
        rcases hc with hc | hc
        · exact ha c hc
        · exact y2.2 c hc
      refine ⟨q1, ?_⟩
      rw [q2, e0, Array.append_empty, Array.size_append, y1, List.length_cons]
      omega
  cases ys with
  | nil =>
    have e : Txt.join "" [] = "" := by decide +kernel
    rw [e]
    exact ⟨asc_of (by decide +kernel), by decide +kernel⟩
  | cons y r =>
    obtain ⟨y1, y2⟩ := h y (List.mem_cons_self ..)
    have y1' : y.cps.size = 1 := y1
    obtain ⟨q1, q2⟩ := key r y.cps (fun z hz => h z (List.mem_cons_of_mem _ hz)) y2.2
    have el : (Txt.join "" (y :: r)).length = (y :: r).length := by
      show (r.foldl (fun acc p => acc ++ ("" : Str).cps ++ p.cps) y.cps).size = _
      rw [q2, y1', List.length_cons]
      omega
    exact ⟨⟨by rw [el]; exact hl, q1⟩, el⟩
theorem mth_up {z : Str} (h : z.length ≤ 1000) : mthD .upper (.str z) [] = some (.str (Txt.upper z)) := by
  show (if z.length ≤ 5592405 then _ else _) = _
  rw [if_pos (by omega)]
theorem strs_of : ∀ (ys : List Str), strs? (ys.map D.str) = some ys
  | [] => rfl
  | y :: r => by
    show (strs? (r.map D.str)).map (y :: ·) = _
    rw [strs_of r]
    rfl
theorem mth_join {ys : List Str} (h : (ys.map (·.length)).sum + ys.length * ("" : Str).length ≤ 16777216) : mthD .join (.str "") [.lst (ys.map D.str)] = some (.str (Txt.join "" ys)) := by
  show ((strs? (ys.map D.str)).bind fun ys => if (ys.map (·.length)).sum + ys.length * ("" : Str).length ≤ 16777216 then some (D.str (Txt.join "" ys)) else none) = _
  rw [strs_of]
  show (if _ then _ else _) = _
  rw [if_pos h]
theorem sum_ones : ∀ (ys : List Str), (∀ y ∈ ys, y.length = 1) → (ys.map (·.length)).sum = ys.length
  | [], _ => rfl
  | y :: r, h => by
    rw [List.map_cons, List.sum_cons, sum_ones r fun z hz => h z (List.mem_cons_of_mem _ hz), h y (List.mem_cons_self ..), List.length_cons]
    omega
theorem right_ok (k : Nat) (μ : Store) (hd : IsDie μ k) : ∃ μ', t_law_right [.ref k] μ = some (.ok (.bl true), μ') ∧ Cast k μ μ' := by
  -- the number of letters
  obtain ⟨n, μ1, e1, n0, n1, c1⟩ := cast1 k 10 μ hd (by decide) (by decide)
  have d1 := c1.die hd
  -- the letters
  have lc : ∃ ys μ2, lcM (fun d => bindT (.name 7) d (wipeR ((startR 8 [.ref k]).set 1 (some (.str "abcdefghijklmnopqrstuvwxyz"))) [7])) (fun ρ' => evalTs ⟨[t_is_name, t_law_numbers, t_law_cast, t_law_pick, t_law_odd_one, t_law_is_word], cs⟩ [] ρ') (fun ρ' => evalE ⟨[t_is_name, t_law_numbers, t_law_cast, t_law_pick, t_law_odd_one, t_law_is_word], cs⟩ (.call 3 [(.var 0), (.var 1)]) ρ') (rngD 0 n.toNat) μ1 = some (.ok ys, μ2) ∧ (IsDie μ2 k ∧ Cast k μ μ2) ∧ (∀ y ∈ ys, ∃ c, y = .str ⟨#[c]⟩ ∧ c < 128) ∧ ys.length = (rngD 0 n.toNat).length := by
    refine lc_inv (fun μ' => IsDie μ' k ∧ Cast k μ μ') (fun y => ∃ c, y = .str ⟨#[c]⟩ ∧ c < 128) _ μ1 ⟨d1, c1⟩ fun x hx μ' ⟨dd, cc⟩ => ?_
    obtain ⟨c, μ'', e, mc, ca⟩ := pick1.2 k "abcdefghijklmnopqrstuvwxyz" μ' dd (by decide +kernel) (by decide +kernel)
    refine ⟨_, rfl, bs_nil, _, μ'', v_call (l_cons (v_var rfl (frz_die dd)) (l_cons (v_var rfl rfl) l_nil)) rfl e, ⟨ca.die dd, cc.trans ca⟩, c, rfl, ?_⟩
    have hall : ∀ c ∈ ("abcdefghijklmnopqrstuvwxyz" : Str).cps.toList, c < 128 := by decide +kernel
    exact hall c mc
  obtain ⟨ys, μ2, e2, ⟨d2, c2⟩, hy, hlen⟩ := lc
  rw [rngD_len] at hlen
  obtain ⟨zs, rfl, hz⟩ : ∃ zs : List Str, ys = zs.map D.str ∧ ∀ z ∈ zs, z.length = 1 ∧ Asc z := by
    clear e2 hlen
    induction ys with
    | nil => exact ⟨[], rfl, fun _ h => by cases h⟩
    | cons y r ih =>
      obtain ⟨zs, e, h⟩ := ih fun z hz => hy z (List.mem_cons_of_mem _ hz)
      obtain ⟨c, rfl, hc⟩ := hy y (List.mem_cons_self ..)
      refine ⟨⟨#[c]⟩ :: zs, by rw [e]; rfl, fun z hz => ?_⟩
      rcases List.mem_cons.mp hz with rfl | hz
      · exact ⟨rfl, by show 1 ≤ 1000; decide, fun x hx => by
          have hx : x ∈ [c] := hx
          rw [List.mem_singleton] at hx
          omega⟩
      · exact h z hz
  rw [List.length_map] at hlen
  have hl9 : zs.length ≤ 9 := by omega
  obtain ⟨wa, wl⟩ := join_asc zs hz (by omega)
  have ej := mth_join (ys := zs) (by
    rw [sum_ones zs fun z h => (hz z h).1, show ("" : Str).length = 0 by decide +kernel]
    omega)
  generalize Txt.join "" zs = word at wa wl ej
  have w9 : word.length ≤ 9 := by omega
  -- the place, the odd sign
  obtain ⟨at_, μ3, e3, a0, a1, c3⟩ := cast1 k (word.length + 1) μ2 d2 (by omega) (by omega)
  have d3 := c3.die d2
  obtain ⟨od, μ4, e4, mo, c4⟩ := pick1.1 k [.str "A", .str " ", .str "0", .str "_", .str "-", .str "{", .str "`", .str "\n", .str "z", .str "aa"] μ3 d3 (by decide) (by decide) (by decide +kernel)
  have d4 := c4.die d3
  obtain ⟨o, rfl, oa, ol⟩ : ∃ o : Str, od = .str o ∧ Asc o ∧ o.length ≤ 2 := by
    simp only [List.mem_cons, List.not_mem_nil, or_false] at mo
    rcases mo with h | h | h | h | h | h | h | h | h | h
    all_goals exact ⟨_, h, asc_of (by decide +kernel), by decide +kernel⟩
  -- the value of any kind
  obtain ⟨od2, μ5, e5, ao, c5⟩ := odd_ok k μ4 d4
  have d5 := c5.die d4
  have call := (((c2.trans c3).trans c4).trans c5)
  have ws : word.length ≤ sizeLine := sz2 (by omega)
  obtain ⟨p1a, p1l⟩ := cut_asc (z := word) (lo := none) (hi := some at_) wa
  obtain ⟨p2a, p2l⟩ := cut_asc (z := word) (lo := some at_) (hi := none) wa
  have q1 : Asc (cutS word none (some at_) ++ o) := app_asc p1a oa (by omega)
  have q2 : Asc (cutS word none (some at_) ++ o ++ cutS word (some at_) none) := app_asc q1 p2a (by rw [len_app]; omega)
  have q3 : Asc (word ++ word) := app_asc wa wa (by omega)
  have q4 := up_asc wa w9
  have asks : ∀ d ∈ [D.str word, .str (cutS word none (some at_) ++ o ++ cutS word (some at_) none), .str (cutS word none (some at_)), .str (Txt.upper word), .str (word ++ word), .lst [.str word], .tup [.str word], od2], Ask d := by
    intro d hm
    simp only [List.mem_cons, List.not_mem_nil, or_false] at hm
    rcases hm with rfl | rfl | rfl | rfl | rfl | rfl | rfl | rfl
    · exact ask_str wa
    · exact ask_str q2
    · exact ask_str p1a
    · exact ask_str q4
    · exact ask_str q3
    · exact ask_other rfl rfl (by decide)
    · exact ask_other rfl rfl (by decide)
    · exact ao
  obtain ⟨ρe, μe, ef, hP⟩ := for_inv (b := fun d ρ => bindT (.name 6) d ρ) (f := fun ρ μ => execL ⟨[t_is_name, t_law_numbers, t_law_cast, t_law_pick, t_law_odd_one, t_law_is_word], cs⟩ [.ife (.cmp .NotEq (.blt .repr [(.call 0 [(.var 6)])]) (.blt .repr [(.call 5 [(.var 6)])])) [.ret (.bl false)] []] ρ μ)
    (fun ρ μ' => ρ.length = 8 ∧ μ' = μ5) [D.str word, .str (cutS word none (some at_) ++ o ++ cutS word (some at_) none), .str (cutS word none (some at_)), .str (Txt.upper word), .str (word ++ word), .lst [.str word], .tup [.str word], od2]
    [some (.ref k), some (.str "abcdefghijklmnopqrstuvwxyz"), some (.str word), some (.int at_), some (.str o), some (.lst [D.str word, .str (cutS word none (some at_) ++ o ++ cutS word (some at_) none), .str (cutS word none (some at_)), .str (Txt.upper word), .str (word ++ word), .lst [.str word], .tup [.str word], od2]), none, none] μ5 ⟨rfl, rfl⟩ (by
      rintro x hx ρ μ' ⟨hl, e⟩
      have ax := asks x hx
      refine ⟨ρ.set 6 (some x), rfl, ρ.set 6 (some x), μ', ?_, by rw [List.length_set]; exact hl, e⟩
      have h6 : (ρ.set 6 (some x))[6]? = some (some x) := List.getElem?_set_self (by omega)
      refine xs_ifF (μ1 := μ') ?_ xs_nil
      refine b_cmp (k := false) (v_blt (l_cons (v_call (l_cons (v_var h6 (frz_nr ax.1)) l_nil) rfl (is_name_ok ax _)) l_nil) rfl) (v_blt (l_cons (v_call (l_cons (v_var h6 (frz_nr ax.1)) l_nil) rfl (is_word_ok ax _)) l_nil) rfl) ?_
      cases nameD x
      · decide +kernel
      · decide +kernel)
  obtain ⟨_, rfl⟩ := hP
  refine ⟨μe, fn_ret rfl (xs_next (x_asg v_str rfl) (xs_next (x_asg (v_mth v_str rfl (l_cons (v_lc (i_rng1 (v_call (l_cons (v_var rfl (frz_die hd)) (l_cons v_int l_nil)) rfl e1) (rng_ok (by omega) (by omega))) e2 (by rw [List.length_map]; exact sz2 (by omega))) l_nil) ej) rfl)
    (xs_next (x_par (v_call (l_cons (v_var rfl (frz_die d2)) (l_cons (v_bin (v_blt (l_cons (v_var rfl rfl) l_nil) (len_str ws)) v_int rfl) l_nil)) rfl e3) (v_call (l_cons (v_var rfl (frz_die d3)) (l_cons (v_lst (l_cons v_str (l_cons v_str (l_cons v_str (l_cons v_str (l_cons v_str (l_cons v_str (l_cons v_str (l_cons v_str (l_cons v_str (l_cons v_str l_nil)))))))))) (sz2 (by decide))) l_nil)) rfl e4))
    (xs_next (x_asg (v_lst (l_cons (v_var rfl rfl) (l_cons (v_bin (v_bin (v_slc (v_var rfl rfl) o_none (o_some (v_var rfl rfl)) (slc_str ws)) (v_var rfl rfl) (bin_strs (sz2 (by omega)))) (v_slc (v_var rfl rfl) (o_some (v_var rfl rfl)) o_none (slc_str ws)) (bin_strs (by rw [len_app]; exact sz2 (by omega)))) (l_cons (v_slc (v_var rfl rfl) o_none (o_some (v_var rfl rfl)) (slc_str ws)) (l_cons (v_mth (v_var rfl rfl) rfl l_nil (mth_up (by omega))) (l_cons (v_bin (v_var rfl rfl) (v_var rfl rfl) (bin_strs (sz2 (by omega)))) (l_cons (v_lst (l_cons (v_var rfl rfl) l_nil) (sz3 rfl)) (l_cons (v_tup (l_cons (v_var rfl rfl) l_nil) (sz3 rfl)) (l_cons (v_call (l_cons (v_var rfl (frz_die d4)) l_nil) rfl e5) l_nil)))))))) (sz3 rfl)) rfl)
    (xs_next (x_for (i_val (v_var rfl rfl) rfl) ef) (xs_ret (x_ret v_bl))))))) rfl call.take, call⟩
theorem law_true (ns : List Int) (hl : ns.length ≤ 63) : ∃ μ, t_law [.rol (ns.map D.int)] [] = some (.ok (.bl true), μ) := by
  -- the cells, one after the other
  obtain ⟨ρe, μe, ef, hP⟩ := for_inv (b := fun d ρ => bindT (.name 1) d ρ) (f := fun ρ μ => execL ⟨[t_is_name, t_law_numbers, t_law_cast, t_law_pick, t_law_odd_one, t_law_is_word, t_law_right], cs⟩ [.asg (.name 2) (.call 1 [(.var 0), (.var 1)]), .for (.name 3) (.rng1 (.int 6)) [.ife (.not (.val (.call 6 [(.var 2)]))) [.ret (.bl false)] []]] ρ μ)
    (fun ρ _ => ∃ x1 x2 x3 x4 x5, ρ = [some (.rol (ns.map D.int)), x1, x2, x3, x4, x5]) (rngD 0 (if (if (ns.length : Int) < 8 then (ns.length : Int) else 8) > 1 then (if (ns.length : Int) < 8 then (ns.length : Int) else 8) else 1).toNat) (startR 6 [.rol (ns.map D.int)]) [] ⟨_, _, _, _, _, rfl⟩ (by
      rintro x hx ρ μ ⟨x1, x2, x3, x4, x5, rfl⟩
      obtain ⟨i, hi, rfl⟩ : ∃ i : Nat, i ≤ 100 ∧ x = .int i := by
        obtain ⟨j, hj, ej⟩ := List.mem_iff_getElem.mp hx
        rw [rngD_len] at hj
        have e := rngD_get _ 0 j hj
        have e2 := List.getElem?_eq_getElem (l := rngD 0 (if (if (ns.length : Int) < 8 then (ns.length : Int) else 8) > 1 then (if (ns.length : Int) < 8 then (ns.length : Int) else 8) else 1).toNat) (i := j) (by rw [rngD_len]; exact hj)
        rw [e2] at e
        have e := Option.some.inj e
        rw [ej] at e
        refine ⟨j, ?_, by rw [e]; congr 1; omega⟩
        split at hj
        · split at hj <;> omega
        · omega
      obtain ⟨a, b, c, en⟩ := num1 ns i μ hi
      have dk : IsDie (μ ++ [.shr [.int a, .int b, .int c]]) μ.length := ⟨a, b, c, by rw [List.getElem?_append_right (Nat.le_refl _), Nat.sub_self]; rfl⟩
      obtain ⟨ρ2, μ2, ef2, y3, hρ, hd2⟩ := for_inv (b := fun d ρ => bindT (.name 3) d ρ) (f := fun ρ μ => execL ⟨[t_is_name, t_law_numbers, t_law_cast, t_law_pick, t_law_odd_one, t_law_is_word, t_law_right], cs⟩ [.ife (.not (.val (.call 6 [(.var 2)]))) [.ret (.bl false)] []] ρ μ)
        (fun ρ μ' => ∃ y3, ρ = [some (.rol (ns.map D.int)), some (.int i), some (.ref μ.length), y3, x4, x5] ∧ IsDie μ' μ.length) (rngD 0 6) [some (.rol (ns.map D.int)), some (.int i), some (.ref μ.length), x3, x4, x5] (μ ++ [.shr [.int a, .int b, .int c]]) ⟨x3, rfl, dk⟩ (by
          rintro z hz ρ' μ' ⟨y3, rfl, dd⟩
          obtain ⟨μ'', er, cr⟩ := right_ok μ.length μ' dd
          exact ⟨_, rfl, _, μ'', xs_ifF (b_not (k := true) (b_val (v_call (l_cons (v_var rfl (frz_die dd)) l_nil) rfl er) rfl)) xs_nil, some z, rfl, cr.die dd⟩)
      refine ⟨_, rfl, ρ2, μ2, xs_next (x_asg (v_call (l_cons (v_var rfl rfl) (l_cons (v_var rfl rfl) l_nil)) rfl en) rfl) (xs_next (x_for (i_rng1 v_int (rng_ok (by decide) (by decide))) ef2) xs_nil), ?_⟩
      rw [hρ]
      exact ⟨_, _, _, _, _, rfl⟩)
  obtain ⟨x1, x2, x3, x4, x5, rfl⟩ := hP
  have told : ∀ (z : Str), Asc z → t_is_name [.str z] μe = some (.ok (.bl (nameD (.str z))), μe) := fun z h => is_name_ok (ask_str h) μe
  refine ⟨_, fn_ret rfl (xs_next (x_for (i_rng1 (v_blt (l_cons v_int (l_cons (v_blt (l_cons v_int (l_cons (v_blt (l_cons (v_var rfl rfl) l_nil) (show bltD _ .len [.rol (ns.map D.int)] = some (.int (ns.length : Int)) by show some (D.int _) = _; rw [List.length_map])) l_nil)) rfl) l_nil)) rfl) (rng_ok ?b1 ?b2)) ef)
    (xs_next (x_asg (v_lc (i_val (v_tup (l_cons v_str (l_cons v_str (l_cons v_str (l_cons v_str (l_cons v_str (l_cons v_str (l_cons v_str (l_cons v_str l_nil)))))))) (sz3 rfl)) rfl) (lc_mapc (fun z => D.str z) (fun z => D.bl (nameD (.str z))) ["a", "zzzzzzzz", "aaaaaaaaa", "", "ways", "Row", "a1", "property"] fun z hz => ⟨_, rfl, bs_nil, v_call (l_cons (v_var rfl rfl) l_nil) rfl (told z ?as)⟩) (sz3 rfl)) rfl)
    (xs_ret (x_ret (v_cmp (v_var rfl rfl) (v_lst (l_cons v_bl (l_cons v_bl (l_cons v_bl (l_cons v_bl (l_cons v_bl (l_cons v_bl (l_cons v_bl (l_cons v_bl l_nil)))))))) (sz3 rfl)) ?eq))))) rfl rfl⟩
  case b1 => split <;> omega
  case b2 =>
    split
    · split <;> omega
    · omega
  case as =>
    have hall : (["a", "zzzzzzzz", "aaaaaaaaa", "", "ways", "Row", "a1", "property"] : List Str).all (fun z => decide (z.length ≤ 1000) && z.cps.toList.all fun c => decide (c < 128)) = true := by decide +kernel
    exact asc_of (List.all_eq_true.mp hall z hz)
  case eq => decide +kernel
end Lw
namespace Lw
open PySem L2 Sg
def top (i : Nat) : Stmt := PySem.Challenge.pw_suredegrees_k01_names.main.body.getD i (.Pass ⟨0, 0, 0, 0⟩)
abbrev s_is_name : Stmt := top 3
theorem sc_is_name : FnScope n_is_name ["value"] (defScope s_is_name) := ⟨rfl, rfl, rfl, by decide +kernel, rfl, by decide +kernel, by decide +kernel⟩
abbrev s_law_numbers : Stmt := top 5
theorem sc_law_numbers : FnScope n_law_numbers ["_law_script", "_law_at"] (defScope s_law_numbers) := ⟨rfl, rfl, rfl, by decide +kernel, rfl, by decide +kernel, by decide +kernel⟩
abbrev s_law_cast : Stmt := top 6
theorem sc_law_cast : FnScope n_law_cast ["_law_die", "_law_total"] (defScope s_law_cast) := ⟨rfl, rfl, rfl, by decide +kernel, rfl, by decide +kernel, by decide +kernel⟩
abbrev s_law_pick : Stmt := top 7
theorem sc_law_pick : FnScope n_law_pick ["_law_die", "_law_items"] (defScope s_law_pick) := ⟨rfl, rfl, rfl, by decide +kernel, rfl, by decide +kernel, by decide +kernel⟩
abbrev s_law_odd_one : Stmt := top 8
theorem sc_law_odd_one : FnScope n_law_odd_one ["_law_die"] (defScope s_law_odd_one) := ⟨rfl, rfl, rfl, by decide +kernel, rfl, by decide +kernel, by decide +kernel⟩
abbrev s_law_is_word : Stmt := top 9
theorem sc_law_is_word : FnScope n_law_is_word ["_law_value"] (defScope s_law_is_word) := ⟨rfl, rfl, rfl, by decide +kernel, rfl, by decide +kernel, by decide +kernel⟩
abbrev s_law_right : Stmt := top 10
theorem sc_law_right : FnScope n_law_right ["_law_die"] (defScope s_law_right) := ⟨rfl, rfl, rfl, by decide +kernel, rfl, by decide +kernel, by decide +kernel⟩
abbrev s_law : Stmt := top 11
theorem sc_law : FnScope n_law ["_law_script"] (defScope s_law) := ⟨rfl, rfl, rfl, by decide +kernel, rfl, by decide +kernel, by decide +kernel⟩
def cns : List Str := ["LETTERS", "MAX_LETTERS"]
theorem ck_is_name : chkSs ⟨n_is_name, defScope s_is_name, fun _ => true, [], cns⟩ b_is_name (defBody s_is_name) = true := by decide +kernel
theorem ck_law_numbers : chkSs ⟨n_law_numbers, defScope s_law_numbers, fun _ => true, ["is_name"], cns⟩ b_law_numbers (defBody s_law_numbers) = true := by decide +kernel
theorem ck_law_cast : chkSs ⟨n_law_cast, defScope s_law_cast, fun _ => true, ["is_name", "_law_numbers"], cns⟩ b_law_cast (defBody s_law_cast) = true := by decide +kernel
theorem ck_law_pick : chkSs ⟨n_law_pick, defScope s_law_pick, fun _ => true, ["is_name", "_law_numbers", "_law_cast"], cns⟩ b_law_pick (defBody s_law_pick) = true := by decide +kernel
theorem ck_law_odd_one : chkSs ⟨n_law_odd_one, defScope s_law_odd_one, fun _ => true, ["is_name", "_law_numbers", "_law_cast", "_law_pick"], cns⟩ b_law_odd_one (defBody s_law_odd_one) = true := by decide +kernel
theorem ck_law_is_word : chkSs ⟨n_law_is_word, defScope s_law_is_word, fun _ => true, ["is_name", "_law_numbers", "_law_cast", "_law_pick", "_law_odd_one"], cns⟩ b_law_is_word (defBody s_law_is_word) = true := by decide +kernel
theorem ck_law_right : chkSs ⟨n_law_right, defScope s_law_right, fun _ => true, ["is_name", "_law_numbers", "_law_cast", "_law_pick", "_law_odd_one", "_law_is_word"], cns⟩ b_law_right (defBody s_law_right) = true := by decide +kernel
theorem ck_law : chkSs ⟨n_law, defScope s_law, fun _ => true, ["is_name", "_law_numbers", "_law_cast", "_law_pick", "_law_odd_one", "_law_is_word", "_law_right"], cns⟩ b_law (defBody s_law) = true := by decide +kernel
theorem all_mk {l : PySem.W.OpenLaw} {w : World} {K : PySem.W.Frag} {h : Heap} {mg : Str → Option Value} {fa : Addr} (X : K.In h) (G : h.Ns mainGlobals mg) (hfa : mg "law" = some (.ref fa))
    {od0 an0 : Option Addr} {sl0 : Array (Option Value)} {oc0 kV0 dc0 pm0 cd0 ct0 : Value} {f0 : Addr}
    (a0 : PySem.W.nsIn K mainGlobals "is_name" = some (some (.ref f0))) (l0 : K.lookup f0 = some ⟨oc0, od0, .func (PySem.W.fnOf "is_name" "is_name" (defArgs s_is_name) (defBody s_is_name) (defScope s_is_name) .none kV0 dc0 pm0 an0 cd0 ct0), sl0⟩) (c0 : PySem.W.codeIn K cd0 "is_name" = true) (k0 : PySem.W.keepIn K (.ref f0) = true)
    {od1 an1 : Option Addr} {sl1 : Array (Option Value)} {oc1 kV1 dc1 pm1 cd1 ct1 : Value} {f1 : Addr}
    (a1 : PySem.W.nsIn K mainGlobals "_law_numbers" = some (some (.ref f1))) (l1 : K.lookup f1 = some ⟨oc1, od1, .func (PySem.W.fnOf "_law_numbers" "_law_numbers" (defArgs s_law_numbers) (defBody s_law_numbers) (defScope s_law_numbers) .none kV1 dc1 pm1 an1 cd1 ct1), sl1⟩) (c1 : PySem.W.codeIn K cd1 "_law_numbers" = true) (k1 : PySem.W.keepIn K (.ref f1) = true)
    {od2 an2 : Option Addr} {sl2 : Array (Option Value)} {oc2 kV2 dc2 pm2 cd2 ct2 : Value} {f2 : Addr}
    (a2 : PySem.W.nsIn K mainGlobals "_law_cast" = some (some (.ref f2))) (l2 : K.lookup f2 = some ⟨oc2, od2, .func (PySem.W.fnOf "_law_cast" "_law_cast" (defArgs s_law_cast) (defBody s_law_cast) (defScope s_law_cast) .none kV2 dc2 pm2 an2 cd2 ct2), sl2⟩) (c2 : PySem.W.codeIn K cd2 "_law_cast" = true) (k2 : PySem.W.keepIn K (.ref f2) = true)
    {od3 an3 : Option Addr} {sl3 : Array (Option Value)} {oc3 kV3 dc3 pm3 cd3 ct3 : Value} {f3 : Addr}
    (a3 : PySem.W.nsIn K mainGlobals "_law_pick" = some (some (.ref f3))) (l3 : K.lookup f3 = some ⟨oc3, od3, .func (PySem.W.fnOf "_law_pick" "_law_pick" (defArgs s_law_pick) (defBody s_law_pick) (defScope s_law_pick) .none kV3 dc3 pm3 an3 cd3 ct3), sl3⟩) (c3 : PySem.W.codeIn K cd3 "_law_pick" = true) (k3 : PySem.W.keepIn K (.ref f3) = true)
    {od4 an4 : Option Addr} {sl4 : Array (Option Value)} {oc4 kV4 dc4 pm4 cd4 ct4 : Value} {f4 : Addr}
    (a4 : PySem.W.nsIn K mainGlobals "_law_odd_one" = some (some (.ref f4))) (l4 : K.lookup f4 = some ⟨oc4, od4, .func (PySem.W.fnOf "_law_odd_one" "_law_odd_one" (defArgs s_law_odd_one) (defBody s_law_odd_one) (defScope s_law_odd_one) .none kV4 dc4 pm4 an4 cd4 ct4), sl4⟩) (c4 : PySem.W.codeIn K cd4 "_law_odd_one" = true) (k4 : PySem.W.keepIn K (.ref f4) = true)
    {od5 an5 : Option Addr} {sl5 : Array (Option Value)} {oc5 kV5 dc5 pm5 cd5 ct5 : Value} {f5 : Addr}
    (a5 : PySem.W.nsIn K mainGlobals "_law_is_word" = some (some (.ref f5))) (l5 : K.lookup f5 = some ⟨oc5, od5, .func (PySem.W.fnOf "_law_is_word" "_law_is_word" (defArgs s_law_is_word) (defBody s_law_is_word) (defScope s_law_is_word) .none kV5 dc5 pm5 an5 cd5 ct5), sl5⟩) (c5 : PySem.W.codeIn K cd5 "_law_is_word" = true) (k5 : PySem.W.keepIn K (.ref f5) = true)
    {od6 an6 : Option Addr} {sl6 : Array (Option Value)} {oc6 kV6 dc6 pm6 cd6 ct6 : Value} {f6 : Addr}
    (a6 : PySem.W.nsIn K mainGlobals "_law_right" = some (some (.ref f6))) (l6 : K.lookup f6 = some ⟨oc6, od6, .func (PySem.W.fnOf "_law_right" "_law_right" (defArgs s_law_right) (defBody s_law_right) (defScope s_law_right) .none kV6 dc6 pm6 an6 cd6 ct6), sl6⟩) (c6 : PySem.W.codeIn K cd6 "_law_right" = true) (k6 : PySem.W.keepIn K (.ref f6) = true)
    {od7 an7 : Option Addr} {sl7 : Array (Option Value)} {oc7 kV7 dc7 pm7 cd7 ct7 : Value} {f7 : Addr}
    (a7 : PySem.W.nsIn K mainGlobals "law" = some (some (.ref f7))) (l7 : K.lookup f7 = some ⟨oc7, od7, .func (PySem.W.fnOf "law" "law" (defArgs s_law) (defBody s_law) (defScope s_law) .none kV7 dc7 pm7 an7 cd7 ct7), sl7⟩) (c7 : PySem.W.codeIn K cd7 "law" = true) (k7 : PySem.W.keepIn K (.ref f7) = true)
    {u0 : Value} (g0 : PySem.W.nsIn K mainGlobals "LETTERS" = some (some u0)) (r0 : ∃ v, RelV v u0 ∧ ∀ B F m, Rep B F m (cs.getD 0 .non) v)
    {u1 : Value} (g1 : PySem.W.nsIn K mainGlobals "MAX_LETTERS" = some (some u1)) (r1 : ∃ v, RelV v u1 ∧ ∀ B F m, Rep B F m (cs.getD 1 .non) v)
    (z0 : PySem.W.nsIn K mainGlobals "len" = some none)
    (z1 : PySem.W.nsIn K mainGlobals "abs" = some none)
    (z2 : PySem.W.nsIn K mainGlobals "int" = some none)
    (z3 : PySem.W.nsIn K mainGlobals "max" = some none)
    (z4 : PySem.W.nsIn K mainGlobals "min" = some none)
    (z5 : PySem.W.nsIn K mainGlobals "all" = some none)
    (z6 : PySem.W.nsIn K mainGlobals "repr" = some none)
    (z7 : PySem.W.nsIn K mainGlobals "isinstance" = some none)
    (z8 : PySem.W.nsIn K mainGlobals "range" = some none)
    (z9 : PySem.W.nsIn K mainGlobals "str" = some none)
    (z10 : PySem.W.nsIn K mainGlobals "tuple" = some none)
    (z11 : PySem.W.nsIn K mainGlobals "list" = some none)
    (z12 : PySem.W.nsIn K mainGlobals "dict" = some none)
    (z13 : PySem.W.nsIn K mainGlobals "bool" = some none)
    (z14 : PySem.W.nsIn K mainGlobals "sum" = some none)
    (z15 : PySem.W.nsIn K mainGlobals "any" = some none)
    (z16 : PySem.W.nsIn K mainGlobals "sorted" = some none)
    (z17 : PySem.W.nsIn K mainGlobals "zip" = some none)
    (z18 : PySem.W.nsIn K mainGlobals "enumerate" = some none)
    (z19 : PySem.W.nsIn K mainGlobals "set" = some none)
    : ∃ fd : FuncData, (∀ (s : Shared) (v : Value), BindsTo s fd ⟨[v], []⟩ [("_law_script", v)]) ∧ ∀ base : Heap, K.In base → base.Ns mainGlobals mg → FnOk l.prog w K mg base (L2.CX l.prog w) 8 fa fd ["_law_script"] (Prm ⟨K, [], []⟩ t_law) := by
  have e := hfa.symm.trans (PySem.W.mg_of X G a7)
  cases e
  have F0 := fun_mk (st := s_is_name) l0 c0 k0
  have b0 := F0.binds (ps := ["value"]) fun _ _ _ _ _ _ us hl => match us, hl with | [_], _ => rfl
  have F1 := fun_mk (st := s_law_numbers) l1 c1 k1
  have b1 := F1.binds (ps := ["_law_script", "_law_at"]) fun _ _ _ _ _ _ us hl => match us, hl with | [_, _], _ => rfl
  have F2 := fun_mk (st := s_law_cast) l2 c2 k2
  have b2 := F2.binds (ps := ["_law_die", "_law_total"]) fun _ _ _ _ _ _ us hl => match us, hl with | [_, _], _ => rfl
  have F3 := fun_mk (st := s_law_pick) l3 c3 k3
  have b3 := F3.binds (ps := ["_law_die", "_law_items"]) fun _ _ _ _ _ _ us hl => match us, hl with | [_, _], _ => rfl
  have F4 := fun_mk (st := s_law_odd_one) l4 c4 k4
  have b4 := F4.binds (ps := ["_law_die"]) fun _ _ _ _ _ _ us hl => match us, hl with | [_], _ => rfl
  have F5 := fun_mk (st := s_law_is_word) l5 c5 k5
  have b5 := F5.binds (ps := ["_law_value"]) fun _ _ _ _ _ _ us hl => match us, hl with | [_], _ => rfl
  have F6 := fun_mk (st := s_law_right) l6 c6 k6
  have b6 := F6.binds (ps := ["_law_die"]) fun _ _ _ _ _ _ us hl => match us, hl with | [_], _ => rfl
  have F7 := fun_mk (st := s_law) l7 c7 k7
  have b7 := F7.binds (ps := ["_law_script"]) fun _ _ _ _ _ _ us hl => match us, hl with | [_], _ => rfl
  refine ⟨PySem.W.fnOf "law" "law" (defArgs s_law) (defBody s_law) (defScope s_law) .none kV7 dc7 pm7 an7 cd7 ct7, fun s v => .of_eq rfl, fun base _ _ => ?_⟩
  have zb : ∀ x ∈ bltNames, mg x = none := fun x hx => by
    simp only [bltNames, List.mem_cons, List.not_mem_nil, or_false] at hx
    rcases hx with rfl | rfl | rfl | rfl | rfl | rfl | rfl | rfl | rfl | rfl | rfl | rfl | rfl | rfl | rfl | rfl | rfl | rfl | rfl | rfl
    · exact PySem.W.mg_none_of X G z0
    · exact PySem.W.mg_none_of X G z1
    · exact PySem.W.mg_none_of X G z2
    · exact PySem.W.mg_none_of X G z3
    · exact PySem.W.mg_none_of X G z4
    · exact PySem.W.mg_none_of X G z5
    · exact PySem.W.mg_none_of X G z6
    · exact PySem.W.mg_none_of X G z7
    · exact PySem.W.mg_none_of X G z8
    · exact PySem.W.mg_none_of X G z9
    · exact PySem.W.mg_none_of X G z10
    · exact PySem.W.mg_none_of X G z11
    · exact PySem.W.mg_none_of X G z12
    · exact PySem.W.mg_none_of X G z13
    · exact PySem.W.mg_none_of X G z14
    · exact PySem.W.mg_none_of X G z15
    · exact PySem.W.mg_none_of X G z16
    · exact PySem.W.mg_none_of X G z17
    · exact PySem.W.mg_none_of X G z18
    · exact PySem.W.mg_none_of X G z19
  have o0 : FnsOk ⟨false, l.prog, w, mg, base, ⟨K, [], []⟩, 0⟩ ⟨[], cs⟩ [] cns := by
    refine ⟨rfl, fun i t x e => by simp at e, fun i d x e1 e2 => ?_, zb⟩
    match i, e1, e2 with
    | 0, e1, e2 =>
      obtain ⟨v, q1, q2⟩ := r0
      cases e1
      cases e2
      exact ⟨u0, v, PySem.W.mg_of X G g0, q1, fun F m => q2 _ F m⟩
    | 1, e1, e2 =>
      obtain ⟨v, q1, q2⟩ := r1
      cases e1
      cases e2
      exact ⟨u1, v, PySem.W.mg_of X G g1, q1, fun F m => q2 _ F m⟩
    | n + 2, e1, e2 => cases e2
  have G0 := fnB_ok (N := n_is_name) (body := b_is_name) o0 F0 sc_is_name ck_is_name
  have o1 := o0.snoc (t := t_is_name) (PySem.W.mg_of X G a0) k0 b0 G0
  have G1 := fnN_ok (N := n_law_numbers) (body := b_law_numbers) o1 F1 sc_law_numbers ck_law_numbers
  have o2 := o1.snoc (t := t_law_numbers) (PySem.W.mg_of X G a1) k1 b1 G1
  have G2 := fnB_ok (N := n_law_cast) (body := b_law_cast) o2 F2 sc_law_cast ck_law_cast
  have o3 := o2.snoc (t := t_law_cast) (PySem.W.mg_of X G a2) k2 b2 G2
  have G3 := fnB_ok (N := n_law_pick) (body := b_law_pick) o3 F3 sc_law_pick ck_law_pick
  have o4 := o3.snoc (t := t_law_pick) (PySem.W.mg_of X G a3) k3 b3 G3
  have G4 := fnB_ok (N := n_law_odd_one) (body := b_law_odd_one) o4 F4 sc_law_odd_one ck_law_odd_one
  have o5 := o4.snoc (t := t_law_odd_one) (PySem.W.mg_of X G a4) k4 b4 G4
  have G5 := fnB_ok (N := n_law_is_word) (body := b_law_is_word) o5 F5 sc_law_is_word ck_law_is_word
  have o6 := o5.snoc (t := t_law_is_word) (PySem.W.mg_of X G a5) k5 b5 G5
  have G6 := fnB_ok (N := n_law_right) (body := b_law_right) o6 F6 sc_law_right ck_law_right
  have o7 := o6.snoc (t := t_law_right) (PySem.W.mg_of X G a6) k6 b6 G6
  have G7 := fnB_ok (N := n_law) (body := b_law) o7 F7 sc_law ck_law
  exact FnG.ok G7
theorem walk {l : PySem.W.OpenLaw} {q : Program} {loose : List Str} {XP : (Str → Option Value) → Heap → Prop} {YP : World → Heap → Prop} {d : DefRec} {K : Params → PySem.W.Frag} (hn : l.most = some 63) (hdf : d.params.defaults = [])
    (hY : ∀ (w : World) (h : Heap), YP w h → (K w.params).In h)
    (F : ∀ (w : World) (mg : Str → Option Value) (fa : Addr) (h : Heap), (K w.params).In h → h.Ns mainGlobals mg → mg d.name = some (.ref fa) →
      ∃ fd : FuncData, (∀ (s : Shared) (u : Value), BindsTo s fd ⟨[u], []⟩ [("_law_script", u)]) ∧ ∀ base : Heap, (K w.params).In base → base.Ns mainGlobals mg → FnOk l.prog w (K w.params) mg base (L2.CX l.prog w) 8 fa fd ["_law_script"] (Prm ⟨K w.params, [], []⟩ t_law)) :
    PySem.W.WalkO q loose XP YP l.row.toRowW d [] (fun f vs => PySem.call f vs) :=
  L2.walk_of (n := 63) (k := 8) (x := "_law_script") (CX := fun w => L2.CX l.prog w) (sp := fun w => Prm ⟨K w.params, [], []⟩ t_law) hn (by decide) hdf ⟨rfl, by decide, by decide⟩ hY F (fun w H a ns hl _ hS => by
    obtain ⟨μ, e⟩ := law_true ns hl
    exact law_prm (B := ⟨K w.params, [], []⟩) hS e) fun w H s e s' z => by
    obtain ⟨_, _, _, _, _, _, _, _, _, _, _, _, z⟩ := z
    exact z.elim
end Lw
open PySem PySem.W PyProof.Rows
set_option maxRecDepth 100000 in
set_option maxHeartbeats 0 in
theorem PySem.Challenge.cw_suredegrees_k01_names_holds : PySem.Challenge.rw_suredegrees_k01_names.Holds := by
  w_on; o_law; k_head; (case hw => w_witness2)
  k_fill
  refine Lw.walk (l := PySem.Challenge.rw_suredegrees_k01_names) rfl rfl (fun w h Y => PySem.W.kIn_of Y) ?F
  case F =>
    intro w mg fa h KX G hmg
    refine' Lw.all_mk KX G hmg ?h_a0 ?h_l0 ?h_c0 ?h_k0 ?h_a1 ?h_l1 ?h_c1 ?h_k1 ?h_a2 ?h_l2 ?h_c2 ?h_k2 ?h_a3 ?h_l3 ?h_c3 ?h_k3 ?h_a4 ?h_l4 ?h_c4 ?h_k4 ?h_a5 ?h_l5 ?h_c5 ?h_k5 ?h_a6 ?h_l6 ?h_c6 ?h_k6 ?h_a7 ?h_l7 ?h_c7 ?h_k7 ?h_g0 ?h_r0 ?h_g1 ?h_r1 ?h_z0 ?h_z1 ?h_z2 ?h_z3 ?h_z4 ?h_z5 ?h_z6 ?h_z7 ?h_z8 ?h_z9 ?h_z10 ?h_z11 ?h_z12 ?h_z13 ?h_z14 ?h_z15 ?h_z16 ?h_z17 ?h_z18 ?h_z19
    (case h_a0 => k_is)
    (case h_l0 => k_is)
    (case h_c0 => k_is)
    (case h_k0 => k_is)
    (case h_a1 => k_is)
    (case h_l1 => k_is)
    (case h_c1 => k_is)
    (case h_k1 => k_is)
    (case h_a2 => k_is)
    (case h_l2 => k_is)
    (case h_c2 => k_is)
    (case h_k2 => k_is)
    (case h_a3 => k_is)
    (case h_l3 => k_is)
    (case h_c3 => k_is)
    (case h_k3 => k_is)
    (case h_a4 => k_is)
    (case h_l4 => k_is)
    (case h_c4 => k_is)
    (case h_k4 => k_is)
    (case h_a5 => k_is)
    (case h_l5 => k_is)
    (case h_c5 => k_is)
    (case h_k5 => k_is)
    (case h_a6 => k_is)
    (case h_l6 => k_is)
    (case h_c6 => k_is)
    (case h_k6 => k_is)
    (case h_a7 => k_is)
    (case h_l7 => k_is)
    (case h_c7 => k_is)
    (case h_k7 => k_is)
    (case h_g0 => k_is)
    (case h_r0 => exact ⟨L2.V.str "abcdefghijklmnopqrstuvwxyz", ⟨_, rfl⟩, fun _ _ _ => rfl⟩)
    (case h_g1 => k_is)
    (case h_r1 => exact ⟨L2.V.int 8, ⟨_, rfl⟩, fun _ _ _ => rfl⟩)
    (case h_z0 => k_is)
    (case h_z1 => k_is)
    (case h_z2 => k_is)
    (case h_z3 => k_is)
    (case h_z4 => k_is)
    (case h_z5 => k_is)
    (case h_z6 => k_is)
    (case h_z7 => k_is)
    (case h_z8 => k_is)
    (case h_z9 => k_is)
    (case h_z10 => k_is)
    (case h_z11 => k_is)
    (case h_z12 => k_is)
    (case h_z13 => k_is)
    (case h_z14 => k_is)
    (case h_z15 => k_is)
    (case h_z16 => k_is)
    (case h_z17 => k_is)
    (case h_z18 => k_is)
    (case h_z19 => k_is)

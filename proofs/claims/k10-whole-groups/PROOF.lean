import PyProof.Rows.All
import Wide.All
import OpenK.AllK
import Wide.FinOn
import HandS.ForMost
import HandS.ForExc
import KE.DataEq
import KE.SortData
import KE.DataMinMax
import HandS.TupAny
import HandS.Style
import HandS.SuiteRaise
import HandS.TupMul
import HandS.DictComp
import HandS.Zip
import KE.GoesZip
import HandS.SortKw
import HandS.More
import HandS.SetFor
import HandS.Strs
import HandS.Conv
import KE.DataIsa
import HandS.TupSets
import KE.KeyNested
import HandS.ExcIs
import HandS.Dict
import HandS.Iter
import HandS.ListItems
import HandS.ExcValue
import HandS.TryOnly
import HandS.TryMany
import HandS.ExcCtx
import HandS.HeadHook1
import HandS.HotCalls
import HandS.Lambda
import KE.SortKeyHeap
import HandS.EndOwn
import KE.KNestM
import PySem.Challenge.RW_daysheet_k10_whole_groups
set_option Elab.async false
set_option linter.all false
section
set_option Elab.async false
set_option linter.all false
namespace G81
open PySem L2

/-- values -/
inductive D where
  | non
  | bl (b : Bool)
  | int (i : Int)
  | str (s : Str)
  | tup (ds : List D)
  | lst (ds : List D)
  | dic (kvs : List (Key × D))
  | exc (c : Str)
  | fn (f : Str)
  deriving Inhabited

mutual
def D.toP : D → PyData
  | .non => .none
  | .bl b => .bool b
  | .int i => .int i
  | .str s => .str s
  | .tup ds => .tuple (D.toPs ds)
  | .lst ds => .list (D.toPs ds)
  | .dic _ => .dict []
  | .exc _ => .dict []
  | .fn _ => .dict []
def D.toPs : List D → List PyData
  | [] => []
  | d :: r => d.toP :: D.toPs r
end
mutual
/-- no dict, no exception, no def within; nested no deeper than n -/
def D.pl : Nat → D → Bool
  | _, .non => true
  | _, .bl _ => true
  | _, .int _ => true
  | _, .str _ => true
  | 0, .tup _ => false
  | n + 1, .tup ds => D.pls n ds
  | 0, .lst _ => false
  | n + 1, .lst ds => D.pls n ds
  | _, .dic _ => false
  | _, .exc _ => false
  | _, .fn _ => false
def D.pls : Nat → List D → Bool
  | _, [] => true
  | n, d :: r => D.pl n d && D.pls n r
end
def D.scal : D → Bool
  | .non => true
  | .bl _ => true
  | .int _ => true
  | .str _ => true
  | _ => false
def D.isBl : D → Bool
  | .bl _ => true
  | _ => false
def D.isStr : D → Bool
  | .str _ => true
  | _ => false
def rngOk (i j : Int) : Bool := decide (-1000000 ≤ i) && decide (i ≤ 1000000) && decide (-1000000 ≤ j) && decide (j ≤ 1000000)

/-- how an evaluation ends -/
inductive R (α : Type) where
  | ok (a : α)
  | exc (c : Str)
  | stuck
def R.bind {α β : Type} (r : R α) (f : α → R β) : R β :=
  match r with
  | .ok a => f a
  | .exc c => .exc c
  | .stuck => .stuck
def R.map {α β : Type} (f : α → β) (r : R α) : R β :=
  match r with
  | .ok a => .ok (f a)
  | .exc c => .exc c
  | .stuck => .stuck
def R.of {α : Type} : Option α → R α
  | some a => .ok a
  | none => .stuck
/-- what an expression gives: a value, or a new list, a new dict that nobody else has -/
inductive W where
  | d (x : D)
  | fl (ds : List D)
  | fd (kvs : List (Key × D))
def W.toD : W → D
  | .d x => x
  | .fl ds => .lst ds
  | .fd kvs => .dic kvs
/-- a binder: its sheets by names; steps with what was -/
structure Ob where
  held : List (Key × D)
  past : List D
  later : List D
/-- a slot: not set; a value; a list, a dict that only this slot has; a binder -/
inductive Sl where
  | no
  | v (d : D)
  | ol (ds : List D)
  | od (kvs : List (Key × D))
  | ob (B : Ob)
abbrev En := List Sl
inductive Fl where
  | nx (ρ : En)
  | rt (w : W)
  | bk (ρ : En)
  | ct (ρ : En)
  | exc (c : Str) (ρ : En)
  | stuck

def ints? : List D → Option (List Int)
  | [] => some []
  | .int i :: r => (ints? r).map (i :: ·)
  | _ :: _ => none
def bls? : List D → Option (List Bool)
  | [] => some []
  | .bl i :: r => (bls? r).map (i :: ·)
  | _ :: _ => none
def strs? : List D → Option (List Str)
  | [] => some []
  | .str i :: r => (strs? r).map (i :: ·)
  | _ :: _ => none
def key? : D → Option Key
  | .int i => some (.inl i)
  | .str s => some (.inr s)
  | _ => none
def kD : Key → D
  | .inl i => .int i
  | .inr s => .str s
def pairs? : List D → Option (List (Key × D))
  | [] => some []
  | .tup [a, b] :: r => (key? a).bind fun k => (pairs? r).map ((k, b) :: ·)
  | _ :: _ => none
def valD (kvs : List (Key × D)) (k : Key) : Option D := (kvs.find? fun kv => decide (kv.1 = k)).map (·.2)
def putD (kvs : List (Key × D)) (k : Key) (v : D) : List (Key × D) :=
  if kvs.any (fun kv => decide (kv.1 = k)) = true then kvs.map (fun kv => if kv.1 = k then (kv.1, v) else kv) else kvs ++ [(k, v)]
def mergeD (kvs more : List (Key × D)) : List (Key × D) := more.foldl (fun acc kv => putD acc kv.1 kv.2) kvs
def dropD (kvs : List (Key × D)) (k : Key) : List (Key × D) := kvs.filter fun kv => decide (kv.1 ≠ k)
def sgn (c : Nat) : Str := ⟨#[c]⟩
/-- what a loop walks -/
def items? : D → Option (List D)
  | .lst ds => some ds
  | .tup ds => some ds
  | .str s => some (s.cps.toList.map fun c => .str (sgn c))
  | .dic kvs => some (kvs.map fun kv => kD kv.1)
  | _ => none
def eqb (d e : D) : Bool := PyData.eqv d.toP e.toP
def ltb (d e : D) : Bool := PySem.W.dataLt d.toP e.toP
def leb (d e : D) : Bool := !ltb e d
def NEST : Nat := 20
def SIZE : Nat := 1000000
/-- a plain value, found again -/
def flatEq (d : D) (e : Option D) : Bool :=
  match d, e with
  | .non, some .non => true
  | .bl a, some (.bl b) => a == b
  | .int a, some (.int b) => decide (a = b)
  | .str a, some (.str b) => decide (a = b)
  | _, _ => false
/-- a plain value, alike -/
def rowEq (d : D) (e : Option D) : Bool :=
  match e with
  | some y => D.pl NEST d && (D.pl NEST y && eqb d y)
  | none => false
/-- two dicts, alike -/
def dicR (d e : D) : R Bool :=
  match d, e with
  | .dic ks, .dic ls => if ks.length = ls.length ∧ (ks.all fun p => flatEq p.2 (valD ls p.1)) = true then .ok true else if ks.length = ls.length ∧ (ks.all fun p => rowEq p.2 (valD ls p.1)) = true then .ok true else .stuck
  | .lst ds, .lst es => if ds.length = es.length then .stuck else .ok false
  | _, _ => .stuck
def eqR (d e : D) : R Bool := if (D.pl NEST d && D.pl NEST e) = true then .ok (eqb d e) else dicR d e
def inR (x : D) (ds : List D) : R Bool := if (D.pl NEST x && D.pls NEST ds) = true then .ok (ds.any fun y => eqb y x) else .stuck
def intsTo : Int → Nat → List D
  | _, 0 => []
  | i, n + 1 => .int i :: intsTo (i + 1) n
def cutD (ds : List D) (lo hi : Option Int) : List D := (ds.drop (HT.sIx ds.length 0 lo)).take (HT.sIx ds.length ds.length hi - HT.sIx ds.length 0 lo)
def zipD : List D → List D → List D
  | a :: r, b :: s => .tup [a, b] :: zipD r s
  | _, _ => []
def seqs? : D → Option (List D)
  | .lst ds => some ds
  | .tup ds => some ds
  | .str s => some (s.cps.toList.map fun c => .str (sgn c))
  | _ => none
def zip? : D → D → Option (List D)
  | .lst a, .lst b => some (zipD a b)
  | .tup a, .tup b => some (zipD a b)
  | .tup a, .lst b => some (zipD a b)
  | _, _ => none
def enumD : Nat → List D → List D
  | _, [] => []
  | i, a :: r => .tup [.int i, a] :: enumD (i + 1) r
def enum? : D → Option (List D)
  | .lst a => some (enumD 0 a)
  | .tup a => some (enumD 0 a)
  | _ => none

inductive Bi where
  | len | max | min | maxd | abs | int | str | sum | any | all | sorted | list | tuple | dict | lenset | sortedset | listrange | listitems
  deriving DecidableEq
inductive Me where
  | index | count | join | split | partition | get
  deriving DecidableEq
inductive Ty where
  | int | bool | str | tuple | list | dict
  deriving DecidableEq
/-- a target: a name, names of a tuple's items -/
inductive Pt where
  | one (i : Nat)
  | tup (is : List Nat)
  | tup2 (i : Nat) (is : List Nat)
mutual
inductive C where
  | k (d : D)
  | glob (x : Str)
  | var (i : Nat)
  | tup (es : Cs)
  | lst (es : Cs)
  | dsp (ks vs : Cs)
  | bin (op : Operator) (a b : C)
  | neg (a : C)
  | not (a : C)
  | and (a b : C)
  | or (a b : C)
  | cmp (op : CmpOp) (a b : C)
  | chain (op op' : CmpOp) (a b c : C)
  | ife (t a b : C)
  | ix (a i : C)
  | sl (a : C) (lo hi : Co)
  | comp (elt : C) (g : Pt) (it : It) (t : Co) (own : List Nat)
  | call (f : Str) (es : Cs)
  | bi (b : Bi) (es : Cs)
  | me (m : Me) (r : C) (es : Cs)
  | isi (a : C) (t : Ty)
  | chain3 (o1 o2 o3 : CmpOp) (a b c d : C)
  | isx (a : C) (t : Str) (cs : List Str)
  | fnv (x : Str)
  | callv (f : C) (fs : List Str) (es : Cs)
  | rev (a : C)
  | compk (elt : C) (g : Pt) (i : Nat) (t : Co) (own : List Nat)
  | compx (elt : C) (g : Pt) (it : It) (t : Co) (own : List Nat)
  | fld (i k : Nat)
  | compf (elt : C) (g : Pt) (i : Nat) (t : Co) (own : List Nat)
inductive Co where
  | no
  | so (e : C)
inductive Cs where
  | nil
  | cons (e : C) (r : Cs)
inductive It where
  | seq (e : C)
  | rng1 (a : C)
  | rng2 (a b : C)
  | zip (a b : C)
  | enum (a : C)
end
mutual
inductive S where
  | asg (g : Pt) (e : C)
  | keep (i : Nat) (e : C)
  | par (is : List Nat) (es : Cs)
  | app (i : Nat) (e : C)
  | ext (i : Nat) (e : C)
  | put (i : Nat) (k v : C)
  | ex (e : C)
  | ret (e : C)
  | ret0
  | ife (t : C) (a b : Ss)
  | for (g : Pt) (it : It) (b : Ss)
  | while (t : C) (b : Ss)
  | raise (c : Str)
  | brk
  | cnt
  | pass
  | mv (i j : Nat)
  | ins (i : Nat) (k v : C)
  | tryk (i k : Nat) (b : Ss) (cs : List Str)
  | dpop (i : Nat) (k : C)
  | grp (i e o : Nat) (it : It)
  | tryr (j : Nat) (b : Ss) (cs : List Str)
  | dpopd (i : Nat) (k : C)
inductive Ss where
  | nil
  | cons (s : S) (r : Ss)
end
/-- a def: its slots (parameters first), how many parameters, its body -/
structure FD where
  np : Nat
  ns : Nat
  body : Ss

def rdB (ρ : En) (i : Nat) : R D :=
  match ρ.getD i .no with
  | .no => .stuck
  | .v d => .ok d
  | .ol ds => .ok (.lst ds)
  | .od kvs => .ok (.dic kvs)
  | .ob _ => .stuck
/-- a binder's field: held, past, later -/
def rdF (ρ : En) (i k : Nat) : R D :=
  match ρ.getD i .no with
  | .ob B => (match k with
    | 0 => .ok (.dic B.held)
    | 1 => .ok (.lst B.past)
    | 2 => .ok (.lst B.later)
    | _ => .stuck)
  | _ => .stuck
def rdV (ρ : En) (i : Nat) : R W :=
  match ρ.getD i .no with
  | .v d => .ok (.d d)
  | _ => .stuck
/-- read for the moment: a name's own list is not given away -/
def bor (e : C) (ρ : En) (r : R W) : R D :=
  match e with
  | .var i => rdB ρ i
  | .fld i k => rdF ρ i k
  | _ => r.map W.toD
/-- is what is read for the moment a name's own? -/
def lent (e : C) (ρ : En) : Bool :=
  match e with
  | .var i => match ρ.getD i .no with
    | .ol _ => true
    | .od _ => true
    | _ => false
  | .fld _ k => decide (k ≠ 0)
  | _ => false
def wipeE (ρ : En) : List Nat → En
  | [] => ρ
  | i :: r => (wipeE ρ r).set i .no
def asgs : List Nat → List D → En → Option En
  | [], [], ρ => some ρ
  | i :: is, d :: ds, ρ => asgs is ds (ρ.set i (.v d))
  | _, _, _ => none
def asgn (g : Pt) (d : D) (ρ : En) : Option En :=
  match g with
  | .one i => some (ρ.set i (.v d))
  | .tup is => match d with
    | .tup ds => asgs is ds ρ
    | _ => none
  | .tup2 i is => match d with
    | .tup [a, .tup ds] => asgs is ds (ρ.set i (.v a))
    | _ => none
def boolW (b : Bool) : W := .d (.bl b)
def addEv (a b : D) : R W :=
  match a, b with
  | .int i, .int j => .ok (.d (.int (i + j)))
  | .str s, .str t => if s.length + t.length ≤ SIZE then .ok (.d (.str (s ++ t))) else .stuck
  | .lst xs, .lst ys => if xs.length + ys.length ≤ SIZE then .ok (.fl (xs ++ ys)) else .stuck
  | .tup xs, .tup ys => if xs.length + ys.length ≤ SIZE then .ok (.d (.tup (xs ++ ys))) else .stuck
  | _, _ => .stuck
def subEv (a b : D) : R W :=
  match a, b with
  | .int i, .int j => .ok (.d (.int (i - j)))
  | _, _ => .stuck
def mulEv (a b : D) : R W :=
  match a, b with
  | .int i, .int j => if (-(2 ^ 64) < i ∧ i < 2 ^ 64) ∨ (-(2 ^ 64) < j ∧ j < 2 ^ 64) then .ok (.d (.int (i * j))) else .stuck
  | .lst xs, .int j => if 0 ≤ j ∧ j ≤ 1000 ∧ xs.length ≤ 1000 then .ok (.fl (List.replicate j.toNat xs).flatten) else .stuck
  | .tup xs, .int j => if 2 ≤ j ∧ j ≤ 1000 ∧ xs.length ≤ 1000 ∧ xs ≠ [] then .ok (.d (.tup (List.replicate j.toNat xs).flatten)) else .stuck
  | _, _ => .stuck
def fdivEv (a b : D) : R W :=
  match a, b with
  | .int i, .int j => if 0 < j ∧ j < 1073741824 then .ok (.d (.int (i / j))) else .stuck
  | _, _ => .stuck
def modEv (a b : D) : R W :=
  match a, b with
  | .int i, .int j => if 0 < j then .ok (.d (.int (i % j))) else .stuck
  | _, _ => .stuck
def powEv (a b : D) : R W :=
  match a, b with
  | .int i, .int j => if 0 ≤ j ∧ j ≤ 1000 ∧ i.natAbs < 2 ^ 64 then .ok (.d (.int (i ^ j.toNat))) else .stuck
  | _, _ => .stuck
def binEv (op : Operator) (a b : D) : R W :=
  match op with
  | .Add => addEv a b
  | .Sub => subEv a b
  | .Mult => mulEv a b
  | .FloorDiv => fdivEv a b
  | .Mod => modEv a b
  | .Pow => powEv a b
  | _ => .stuck
def notR (r : R Bool) : R Bool := r.map (!·)
def isR (d e : D) : R Bool :=
  match e with
  | .non => match d with
    | .non => .ok true
    | .exc _ => .ok false
    | .fn _ => .ok false
    | _ => .ok false
  | .bl b => match d with
    | .bl c => .ok (b == c)
    | _ => .stuck
  | _ => .stuck
def memR (x c : D) : R Bool :=
  match c with
  | .lst ds => inR x ds
  | .tup ds => inR x ds
  | .str z => match x with
    | .str y => if y.length = 1 then .ok (decide (y.cps.getD 0 0 ∈ z.cps.toList)) else .stuck
    | _ => .stuck
  | .dic kvs => match key? x with
    | some k => .ok (valD kvs k).isSome
    | none => .stuck
  | _ => .stuck
def ordR (f : Int → Int → Bool) (d e : D) : R Bool :=
  match d, e with
  | .int i, .int j => .ok (f i j)
  | _, _ => .stuck
def cmpEv (op : CmpOp) (d e : D) : R Bool :=
  match op with
  | .Eq => eqR d e
  | .NotEq => notR (eqR d e)
  | .Lt => ordR (fun i j => decide (i < j)) d e
  | .LtE => ordR (fun i j => decide (i ≤ j)) d e
  | .Gt => ordR (fun i j => decide (j < i)) d e
  | .GtE => ordR (fun i j => decide (j ≤ i)) d e
  | .Is => isR d e
  | .IsNot => notR (isR d e)
  | .In => memR d e
  | .NotIn => notR (memR d e)
def ixEv (a i : D) : R D :=
  match a, i with
  | .lst ds, .int j => .of (atI ds j)
  | .tup ds, .int j => .of (atI ds j)
  | .str z, .int j => if z.length ≤ SIZE then (R.of (atI z.cps.toList j)).map fun c => .str (sgn c) else .stuck
  | .dic kvs, d => (R.of (key? d)).bind fun k => .of (valD kvs k)
  | _, _ => .stuck
def slEv (a : D) (lo hi : Option Int) : R W :=
  match a with
  | .lst ds => .ok (.fl (cutD ds lo hi))
  | .tup ds => .ok (.d (.tup (cutD ds lo hi)))
  | .str z => if z.length ≤ SIZE then .ok (.d (.str (cutS z lo hi))) else .stuck
  | _ => .stuck
def maxI : List Int → Option Int
  | [] => none
  | x :: r => some (r.foldl max x)
def minI : List Int → Option Int
  | [] => none
  | x :: r => some (r.foldl min x)
def minW : List D → Option D
  | [] => none
  | x :: r => some (r.foldl (fun a b => if ltb b a then b else a) x)
def alikes (ds : List D) : Bool := ds.all fun d => ds.all fun e => PySem.W.alike d.toP e.toP
def nonTup (d : D) : Bool := match d with
  | .int _ => true
  | .str _ => true
  | _ => false
def bigTup (d : D) : Bool := match d with
  | .tup (_ :: _) => true
  | _ => false
def sortOk (ds : List D) : Bool := decide (ds.length ≤ SIZE) && D.pls NEST ds && alikes ds && (ds.all nonTup || ds.all bigTup)
def sortD (ds : List D) : List D := ds.mergeSort leb
def nubD : List D → List D
  | [] => []
  | x :: r => x :: (nubD r).filter fun y => !eqb y x
def lenD : D → Option Nat
  | .lst ds => some ds.length
  | .tup ds => some ds.length
  | .str z => if z.length ≤ SIZE then some z.length else none
  | .dic kvs => some kvs.length
  | _ => none
def lenEv (as : List D) : R W :=
  match as with
  | [d] => (R.of (lenD d)).map fun (n : Nat) => .d (.int n)
  | _ => .stuck
def maxEv (as : List D) : R W :=
  match as with
  | [.int i, .int j] => .ok (.d (.int (if j > i then j else i)))
  | [.lst ds] => (R.of ((ints? ds).bind maxI)).map fun m => .d (.int m)
  | _ => .stuck
def minEv (as : List D) : R W :=
  match as with
  | [.int i, .int j] => .ok (.d (.int (if j < i then j else i)))
  | [.lst ds] => if sortOk ds = true then (R.of (minW ds)).map fun m => .d m else .stuck
  | _ => .stuck
def maxdEv (as : List D) : R W :=
  match as with
  | [.lst ds, .int z] => (R.of (ints? ds)).map fun is => .d (.int ((maxI is).getD z))
  | _ => .stuck
def absEv (as : List D) : R W :=
  match as with
  | [.int i] => .ok (.d (.int (if i < 0 then -i else i)))
  | _ => .stuck
def intEv (as : List D) : R W :=
  match as with
  | [.int i] => .ok (.d (.int i))
  | [.bl k] => .ok (.d (.int (if k then 1 else 0)))
  | [.str z] => if z.length ≤ 600 then (R.of (PySem.intText? z)).map fun n => .d (.int n) else .stuck
  | _ => .stuck
def strEv (as : List D) : R W :=
  match as with
  | [.int i] => if i.natAbs < 2 ^ 64 then .ok (.d (.str (toString i))) else .stuck
  | _ => .stuck
def sumEv (as : List D) : R W :=
  match as with
  | [.lst ds] => (R.of (ints? ds)).map fun is => .d (.int is.sum)
  | _ => .stuck
def anyEv (as : List D) : R W :=
  match as with
  | [.lst ds] => (R.of (bls? ds)).map fun is => .d (.bl (is.any id))
  | _ => .stuck
def allEv (as : List D) : R W :=
  match as with
  | [.lst ds] => (R.of (bls? ds)).map fun is => .d (.bl (is.all id))
  | _ => .stuck
def leS (a b : Str) : Bool := decide (a.cps.toList ≤ b.cps.toList)
def sortedEv (as : List D) : R W :=
  match as with
  | [.lst ds] => if sortOk ds = true then .ok (.fl (sortD ds)) else .stuck
  | [.tup ds] => if sortOk ds = true then .ok (.fl (sortD ds)) else .stuck
  | [.dic kvs] => (R.of (strs? (kvs.map fun kv => kD kv.1))).bind fun ks => if ks.length < 60 then .ok (.fl ((ks.mergeSort leS).map .str)) else .stuck
  | _ => .stuck
def nubI : List Int → List Int
  | [] => []
  | x :: r => x :: (nubI r).filter fun y => y != x
def listEv (as : List D) : R W :=
  match as with
  | [.lst ds] => .ok (.fl ds)
  | [.tup ds] => .ok (.fl ds)
  | [.dic kvs] => .ok (.fl (kvs.map fun kv => kD kv.1))
  | _ => .stuck
def tupleEv (as : List D) : R W :=
  match as with
  | [.lst ds] => .ok (.d (.tup ds))
  | [.tup ds] => .ok (.d (.tup ds))
  | _ => .stuck
def dictEv (as : List D) : R W :=
  match as with
  | [.lst ds] => (R.of (pairs? ds)).map fun kvs => .fd (mergeD [] kvs)
  | [.dic kvs] => .ok (.fd kvs)
  | _ => .stuck
def nubS : List Str → List Str
  | [] => []
  | x :: r => x :: (nubS r).filter fun y => y != x
/-- the number of different ones: whole numbers, or strs -/
def lenSet? (ds : List D) : Option Nat :=
  match ints? ds with
  | some is => some (nubI is).length
  | none => (strs? ds).map fun ss => (nubS ss).length
/-- a meeting: a str, two whole numbers -/
abbrev Mt := Str × Int × Int
def mtD (r : Mt) : D := .tup [.str r.1, .int r.2.1, .int r.2.2]
def mtR? : List D → Option (List Mt)
  | [] => some []
  | .tup [.str n, .int b, .int e] :: r => (mtR? r).map ((n, b, e) :: ·)
  | _ :: _ => none
def nubT : List Mt → List Mt
  | [] => []
  | x :: r => x :: (nubT r).filter fun y => !decide (y = x)
def leT (a b : Mt) : Bool := leb (mtD a) (mtD b)
def sortSet? (ds : List D) : Option (List D) :=
  match ints? ds with
  | some is => some (((nubI is).mergeSort fun i j => decide (i ≤ j)).map .int)
  | none => match strs? ds with
    | some ss => some (((nubS ss).mergeSort leS).map .str)
    | none => (mtR? ds).map fun ts => ((nubT ts).mergeSort leT).map mtD
def lensetEv (as : List D) : R W :=
  match as with
  | [.lst ds] => if ds.length < 60 then (R.of (lenSet? ds)).map fun (n : Nat) => .d (.int n) else .stuck
  | _ => .stuck
def sortedsetEv (as : List D) : R W :=
  match as with
  | [.tup ds] => if ds.length < 60 then (R.of (ints? ds)).map fun is => .fl (((nubI is).mergeSort fun i j => decide (i ≤ j)).map .int) else .stuck
  | [.lst ds] => if ds.length < 60 then (R.of (sortSet? ds)).map .fl else .stuck
  | _ => .stuck
def listrangeEv (as : List D) : R W :=
  match as with
  | [.int n] => if rngOk 0 n = true then .ok (.fl (intsTo 0 n.toNat)) else .stuck
  | [.int i, .int j] => if rngOk i j = true then .ok (.fl (intsTo i (j - i).toNat)) else .stuck
  | _ => .stuck
def listitemsEv (as : List D) : R W :=
  match as with
  | [.dic kvs] => .ok (.fl (kvs.map fun kv => .tup [kD kv.1, kv.2]))
  | _ => .stuck
def biEv (b : Bi) (as : List D) : R W :=
  match b with
  | .len => lenEv as
  | .max => maxEv as
  | .min => minEv as
  | .maxd => maxdEv as
  | .abs => absEv as
  | .int => intEv as
  | .str => strEv as
  | .sum => sumEv as
  | .any => anyEv as
  | .all => allEv as
  | .sorted => sortedEv as
  | .list => listEv as
  | .tuple => tupleEv as
  | .dict => dictEv as
  | .lenset => lensetEv as
  | .sortedset => sortedsetEv as
  | .listrange => listrangeEv as
  | .listitems => listitemsEv as
def indexEv (r : D) (as : List D) : R W :=
  match r, as with
  | .lst ds, [.int x] => (R.of (ints? ds)).bind fun is => (R.of (is.findIdx? fun y => y == x)).map fun (n : Nat) => .d (.int n)
  | .lst ds, [.bl x] => (R.of (bls? ds)).bind fun is => (R.of (is.findIdx? fun y => y == x)).map fun (n : Nat) => .d (.int n)
  | _, _ => .stuck
def countEv (r : D) (as : List D) : R W :=
  match r, as with
  | .lst ds, [.int x] => (R.of (ints? ds)).map fun is => .d (.int (is.count x : Nat))
  | .lst ds, [.bl x] => (R.of (bls? ds)).map fun is => .d (.int (is.count x : Nat))
  | _, _ => .stuck
def getEv (r : D) (as : List D) : R W :=
  match r, as with
  | .dic kvs, [d, e] => if e.scal = true then (R.of (key? d)).map fun k => .d ((valD kvs k).getD e) else .stuck
  | _, _ => .stuck
def joinEv (r : D) (as : List D) : R W :=
  match r, as with
  | .str a, [.lst ds] => (R.of (strs? ds)).bind fun ys => if (ys.map (·.length)).sum + ys.length * a.length ≤ SIZE then .ok (.d (.str (Txt.join a ys))) else .stuck
  | _, _ => .stuck
def splitEv (r : D) (as : List D) : R W :=
  match r, as with
  | .str a, [.str b] => if (b.length == 0) = false ∧ a.length + 2 ≤ SIZE then .ok (.fl ((Txt.split a b).map D.str)) else .stuck
  | _, _ => .stuck
def partEv (r : D) (as : List D) : R W :=
  match r, as with
  | .str a, [.str b] => if (b.length == 0) = false ∧ a.length ≤ SIZE then .ok (.d (.tup [.str (Txt.partition a b).1, .str (Txt.partition a b).2.1, .str (Txt.partition a b).2.2])) else .stuck
  | _, _ => .stuck
def meEv (m : Me) (r : D) (as : List D) : R W :=
  match m with
  | .index => indexEv r as
  | .count => countEv r as
  | .get => getEv r as
  | .join => joinEv r as
  | .split => splitEv r as
  | .partition => partEv r as
def meTy (m : Me) (r : D) : Bool :=
  match m, r with
  | .index, .lst _ => true
  | .count, .lst _ => true
  | .join, .str _ => true
  | .split, .str _ => true
  | .partition, .str _ => true
  | _, _ => false
def isiEv (d : D) (t : Ty) : R W :=
  if D.pl NEST d = true then
    .ok (boolW (match t, d with
      | .int, .int _ => true
      | .int, .bl _ => true
      | .bool, .bl _ => true
      | .str, .str _ => true
      | .tuple, .tup _ => true
      | .list, .lst _ => true
      | _, _ => false))
  else .stuck
/-- isinstance(x, an own class of errors, or ValueError), x a caught error -/
def isxEv (d : D) (t : Str) (cs : List Str) : R W :=
  match d with
  | .exc c => if c ∈ cs then .ok (boolW (decide (t = "ValueError") || decide (c = t))) else .stuck
  | _ => .stuck
def compL (g : Pt) (t : En → R Bool) (el : En → R D) (ρ : En) : List D → R (List D)
  | [] => .ok []
  | d :: r => match asgn g d ρ with
    | none => .stuck
    | some ρ1 => match t ρ1 with
      | .ok true => match el ρ1 with
        | .ok x => match compL g t el ρ r with
          | .ok xs => .ok (x :: xs)
          | _ => .stuck
        | _ => .stuck
      | .ok false => compL g t el ρ r
      | _ => .stuck
/-- .. an exception let out -/
def compX (g : Pt) (t : En → R Bool) (el : En → R D) (ρ : En) : List D → R (List D)
  | [] => .ok []
  | d :: r => match asgn g d ρ with
    | none => .stuck
    | some ρ1 => (t ρ1).bind fun b => if b = true then (el ρ1).bind fun x => (compX g t el ρ r).map fun xs => x :: xs else compX g t el ρ r
def tru : R W → R Bool
  | .ok (.d (.bl b)) => .ok b
  | .ok _ => .stuck
  | .exc c => .exc c
  | .stuck => .stuck
def okInt : R D → R Int
  | .ok (.int i) => .ok i
  | .exc c => .exc c
  | _ => .stuck
def sizeOk (xs : List D) : R (List D) := if xs.length ≤ SIZE then .ok xs else .stuck
/-- what [e for x in d ..] gives, d the dict of slot i -/
def compkEv (ρ : En) (i : Nat) (f : List D → R (List D)) : R W :=
  match ρ.getD i .no with
  | .v (.dic kvs) => (f (kvs.map fun kv => kD kv.1)).bind fun xs => (sizeOk xs).map .fl
  | _ => .stuck
/-- what [e for x in o.held ..] gives, o the binder of slot i -/
def compfEv (ρ : En) (i : Nat) (f : List D → R (List D)) : R W :=
  match ρ.getD i .no with
  | .ob B => (f (B.held.map fun kv => kD kv.1)).bind fun xs => (sizeOk xs).map .fl
  | _ => .stuck
def lentR (b : Bool) (r : R W) : R W := r.bind fun w => if b = true then (match w with
  | .d d => if d.scal = true then .ok w else .stuck
  | _ => .stuck) else .ok w
def callEv (cl : Str → List D → R W) (f : Str) (ab : List D × Bool) : R W :=
  match ab.1 with
  | [] => match cl f [] with
    | .ok w => .ok w
    | _ => .stuck
  | _ :: _ => lentR ab.2 (cl f ab.1)
/-- the call of one of some defs -/
def callvEv (fs : List Str) (k : Str → R W) (d : D) : R W :=
  match d with
  | .fn x => if x ∈ fs then k x else .stuck
  | _ => .stuck
/-- xs[::-1] -/
def revEv (d : D) : R W :=
  match d with
  | .lst ds => .ok (.fl ds.reverse)
  | _ => .stuck
mutual
def evW (cl : Str → List D → R W) (gl : Str → Option D) : C → En → R W
  | .k d, _ => .ok (.d d)
  | .glob x, _ => (R.of (gl x)).map .d
  | .var i, ρ => rdV ρ i
  | .tup es, ρ => (evVs cl gl es ρ).map fun ds => .d (.tup ds)
  | .lst es, ρ => (evVs cl gl es ρ).map .fl
  | .dsp ks vs, ρ => (evVs cl gl ks ρ).bind fun a => (evVs cl gl vs ρ).bind fun b => (R.of (pairs? (zipD a b))).map fun kvs => .fd (mergeD [] kvs)
  | .bin op a b, ρ => (bor a ρ (evW cl gl a ρ)).bind fun x => (bor b ρ (evW cl gl b ρ)).bind fun y => binEv op x y
  | .neg a, ρ => (okInt (bor a ρ (evW cl gl a ρ))).map fun i => .d (.int (-i))
  | .not a, ρ => (tru (evW cl gl a ρ)).map fun b => boolW (!b)
  | .and a b, ρ => (tru (evW cl gl a ρ)).bind fun c => if c = true then (tru (evW cl gl b ρ)).map boolW else .ok (boolW false)
  | .or a b, ρ => (tru (evW cl gl a ρ)).bind fun c => if c = true then .ok (boolW true) else (tru (evW cl gl b ρ)).map boolW
  | .cmp op a b, ρ => (bor a ρ (evW cl gl a ρ)).bind fun x => (bor b ρ (evW cl gl b ρ)).bind fun y => (cmpEv op x y).map boolW
  | .chain op op' a b c, ρ => (bor a ρ (evW cl gl a ρ)).bind fun x => (bor b ρ (evW cl gl b ρ)).bind fun y => (cmpEv op x y).bind fun k =>
      if k = true then (bor c ρ (evW cl gl c ρ)).bind fun z => (cmpEv op' y z).map boolW else .ok (boolW false)
  | .ife t a b, ρ => (tru (evW cl gl t ρ)).bind fun c => if c = true then evW cl gl a ρ else evW cl gl b ρ
  | .ix a i, ρ => (bor a ρ (evW cl gl a ρ)).bind fun x => (bor i ρ (evW cl gl i ρ)).bind fun y => (ixEv x y).map .d
  | .sl a lo hi, ρ => (bor a ρ (evW cl gl a ρ)).bind fun x => (evO cl gl lo ρ).bind fun l => (evO cl gl hi ρ).bind fun h => slEv x l h
  | .comp elt g it t own, ρ => (evIt cl gl it ρ).bind fun dsb => (compL g (fun ρ1 => evT cl gl t ρ1) (fun ρ1 => (evW cl gl elt ρ1).map W.toD) (wipeE ρ own) dsb.1).bind fun xs => (sizeOk xs).map .fl
  | .call f es, ρ => (evBs cl gl es ρ).bind fun ab => callEv cl f ab
  | .bi b es, ρ => (evBs cl gl es ρ).bind fun ab => biEv b ab.1
  | .me m r es, ρ => (bor r ρ (evW cl gl r ρ)).bind fun x => if meTy m x = true then (evBs cl gl es ρ).bind fun ab => meEv m x ab.1 else .stuck
  | .isi a t, ρ => (bor a ρ (evW cl gl a ρ)).bind fun x => isiEv x t
  | .chain3 o1 o2 o3 a b c d, ρ => (bor a ρ (evW cl gl a ρ)).bind fun x => (bor b ρ (evW cl gl b ρ)).bind fun y => (cmpEv o1 x y).bind fun k =>
      if k = true then (bor c ρ (evW cl gl c ρ)).bind fun z => (cmpEv o2 y z).bind fun k2 => if k2 = true then (bor d ρ (evW cl gl d ρ)).bind fun u => (cmpEv o3 z u).map boolW else .ok (boolW false) else .ok (boolW false)
  | .isx a t cs, ρ => (bor a ρ (evW cl gl a ρ)).bind fun x => isxEv x t cs
  | .fnv x, _ => .ok (.d (.fn x))
  | .callv f fs es, ρ => (bor f ρ (evW cl gl f ρ)).bind fun d => callvEv fs (fun x => (evBs cl gl es ρ).bind fun ab => callEv cl x ab) d
  | .rev a, ρ => (bor a ρ (evW cl gl a ρ)).bind revEv
  | .compk elt g i t own, ρ => compkEv ρ i fun ks => compL g (fun ρ1 => evT cl gl t ρ1) (fun ρ1 => (evW cl gl elt ρ1).map W.toD) (wipeE ρ own) ks
  | .compx elt g it t own, ρ => (evIt cl gl it ρ).bind fun dsb => if dsb.1.length ≤ SIZE then (compX g (fun ρ1 => evT cl gl t ρ1) (fun ρ1 => (evW cl gl elt ρ1).map W.toD) (wipeE ρ own) dsb.1).map .fl else .stuck
  | .fld i k, ρ => if k = 0 then (rdF ρ i 0).map .d else .stuck
  | .compf elt g i t own, ρ => compfEv ρ i fun ks => compL g (fun ρ1 => evT cl gl t ρ1) (fun ρ1 => (evW cl gl elt ρ1).map W.toD) (wipeE ρ own) ks
def evO (cl : Str → List D → R W) (gl : Str → Option D) : Co → En → R (Option Int)
  | .no, _ => .ok none
  | .so e, ρ => (okInt (bor e ρ (evW cl gl e ρ))).map some
/-- a comprehension's test -/
def evT (cl : Str → List D → R W) (gl : Str → Option D) : Co → En → R Bool
  | .no, _ => .ok true
  | .so e, ρ => tru (evW cl gl e ρ)
/-- values that are given away -/
def evVs (cl : Str → List D → R W) (gl : Str → Option D) : Cs → En → R (List D)
  | .nil, _ => .ok []
  | .cons e r, ρ => (evW cl gl e ρ).bind fun w => (evVs cl gl r ρ).map fun ds => w.toD :: ds
/-- arguments; whether one of them is a name's own -/
def evBs (cl : Str → List D → R W) (gl : Str → Option D) : Cs → En → R (List D × Bool)
  | .nil, _ => .ok ([], false)
  | .cons e r, ρ => (bor e ρ (evW cl gl e ρ)).bind fun d => (evBs cl gl r ρ).map fun ds => (d :: ds.1, lent e ρ || ds.2)
def evIt (cl : Str → List D → R W) (gl : Str → Option D) : It → En → R (List D × Bool)
  | .seq e, ρ => (bor e ρ (evW cl gl e ρ)).bind fun d => (R.of (seqs? d)).map fun ds => (ds, lent e ρ)
  | .rng1 a, ρ => (okInt (bor a ρ (evW cl gl a ρ))).bind fun n => if rngOk 0 n = true then .ok (intsTo 0 n.toNat, false) else .stuck
  | .rng2 a b, ρ => (okInt (bor a ρ (evW cl gl a ρ))).bind fun i => (okInt (bor b ρ (evW cl gl b ρ))).bind fun j => if rngOk i j = true then .ok (intsTo i (j - i).toNat, false) else .stuck
  | .zip a b, ρ => (bor a ρ (evW cl gl a ρ)).bind fun x => (bor b ρ (evW cl gl b ρ)).bind fun y => (R.of (zip? x y)).map fun xs => (xs, lent a ρ || lent b ρ)
  | .enum a, ρ => (bor a ρ (evW cl gl a ρ)).bind fun x => (R.of (enum? x)).map fun xs => (xs, lent a ρ)
end
def outD (r : R D) (ρ : En) (f : D → Fl) : Fl :=
  match r with
  | .ok d => f d
  | .exc c => .exc c ρ
  | .stuck => .stuck
def outR {α : Type} (r : R α) (ρ : En) (f : α → Fl) : Fl :=
  match r with
  | .ok d => f d
  | .exc c => .exc c ρ
  | .stuck => .stuck
def outO (r : Option En) : Fl :=
  match r with
  | some ρ => .nx ρ
  | none => .stuck
def forL (g : Pt) (body : En → Fl) : List D → En → Fl
  | [], ρ => .nx ρ
  | d :: r, ρ => match asgn g d ρ with
    | none => .stuck
    | some ρ1 => match body ρ1 with
      | .nx ρ2 => forL g body r ρ2
      | .ct ρ2 => forL g body r ρ2
      | .bk ρ2 => .nx ρ2
      | .rt w => .rt w
      | .exc c ρ2 => .exc c ρ2
      | .stuck => .stuck
def whL (t : En → R Bool) (body : En → Fl) : Nat → En → Fl
  | 0, _ => .stuck
  | n + 1, ρ => match t ρ with
    | .ok true => match body ρ with
      | .nx ρ2 => whL t body n ρ2
      | .ct ρ2 => whL t body n ρ2
      | .bk ρ2 => .nx ρ2
      | .rt w => .rt w
      | .exc c ρ2 => .exc c ρ2
      | .stuck => .stuck
    | .ok false => .nx ρ
    | .exc c => .exc c ρ
    | .stuck => .stuck
def TURNS : Nat := 1000
def ownOf : W → Option Sl
  | .fl ds => some (.ol ds)
  | .fd kvs => some (.od kvs)
  | .d _ => none
def appOwn (ρ : En) (i : Nat) (r : R W) : Fl :=
  match ρ.getD i .no with
  | .ol ds => outR r ρ fun w => if ds.length < SIZE then .nx (ρ.set i (.ol (ds ++ [w.toD]))) else .stuck
  | _ => .stuck
def extOwn (ρ : En) (i : Nat) (r : R W) : Fl :=
  match ρ.getD i .no with
  | .ol ds => outR r ρ fun w => match w with
    | .fl es => if ds.length + es.length ≤ SIZE then .nx (ρ.set i (.ol (ds ++ es))) else .stuck
    | .d (.lst es) => if ds.length + es.length ≤ SIZE then .nx (ρ.set i (.ol (ds ++ es))) else .stuck
    | _ => .stuck
  | _ => .stuck
def putOwn (ρ : En) (i : Nat) (k : R W) (v : D) : Fl :=
  match ρ.getD i .no with
  | .ol ds => outR k ρ fun u => match u with
    | .d (.int j) => match ixN ds.length j with
      | some n => .nx (ρ.set i (.ol (ds.set n v)))
      | none => .stuck
    | _ => .stuck
  | .od kvs => outR k ρ fun u => match u with
    | .d d => match key? d with
      | some y => if kvs.length < SIZE then .nx (ρ.set i (.od (putD kvs y v))) else .stuck
      | none => .stuck
    | _ => .stuck
  | _ => .stuck
def retOf (e : C) (ρ : En) (r : R W) : Fl :=
  match e with
  | .var i => match ρ.getD i .no with
    | .v d => .rt (.d d)
    | .ol ds => .rt (.fl ds)
    | .od kvs => .rt (.fd kvs)
    | _ => .stuck
  | _ => match r with
    | .ok w => .rt w
    | .exc c => .exc c ρ
    | .stuck => .stuck
def insOwn (ρ : En) (i : Nat) (k v : R W) : Fl :=
  match ρ.getD i .no with
  | .ol ds => outR k ρ fun u => outR v ρ fun w => match u with
    | .d (.int j) => if 0 ≤ j ∧ j < 1000000 ∧ ds.length < SIZE then .nx (ρ.set i (.ol (ds.take j.toNat ++ [w.toD] ++ ds.drop j.toNat))) else .stuck
    | _ => .stuck
  | _ => .stuck
/-- names hung together: a list of lists, the last of which grows -/
def grpStep (m : List (List Str)) (z b : Int) (n : Str) : List (List Str) := if m ≠ [] ∧ b < z then m.dropLast ++ [m.getLastD [] ++ [n]] else m ++ [[n]]
def grpL : List (List Str) → Int → List D → Option (List (List Str) × Int)
  | m, z, [] => some (m, z)
  | m, z, d :: r => match d with
    | .tup [.str n, .int b, .int f] => grpL (grpStep m z b n) (max z f) r
    | _ => none
def grpD (m : List (List Str)) : List D := m.map fun g => .lst (g.map .str)
def envK (ρ : En) (i e o : Nat) (z : Int) (l : Option D) : En :=
  match l with
  | none => (ρ.set i .no).set e (.v (.int z))
  | some d => ((ρ.set i .no).set e (.v (.int z))).set o (.v d)
def grpEv (i e o : Nat) (ds : List D) (ρ : En) : Fl :=
  match ρ.getD i .no, ρ.getD e .no with
  | .ol [], .v (.int z) => if ds.length < SIZE ∧ o < ρ.length then (match grpL [] z ds with
      | some (m, z') => .nx ((envK ρ i e o z' ds.getLast?).set i (.ol (grpD m)))
      | none => .stuck) else .stuck
  | _, _ => .stuck
/-- i.pop(k), a dict of one's own -/
def popOwn (ρ : En) (i : Nat) (k : R W) : Fl :=
  match ρ.getD i .no with
  | .od kvs => outR k ρ fun u => match u with
    | .d d => match key? d with
      | some y => if (valD kvs y).isSome = true then .nx (ρ.set i (.od (dropD kvs y))) else .stuck
      | none => .stuck
    | _ => .stuck
  | _ => .stuck
/-- i.pop(k, None), a dict of one's own -/
def popdOwn (ρ : En) (i : Nat) (k : R W) : Fl :=
  match ρ.getD i .no with
  | .od kvs => outR k ρ fun u => match u with
    | .d d => match key? d with
      | some y => .nx (ρ.set i (.od (dropD kvs y)))
      | none => .stuck
    | _ => .stuck
  | _ => .stuck
/-- try: .. except x as i: k = i -/
def tryEv (i k : Nat) (cs : List Str) (f : Fl) : Fl :=
  match f with
  | .exc c ρ => if c ∈ cs then .nx ((ρ.set k (.v (.exc c))).set i .no) else .stuck
  | f => f
/-- try: .. except x: return j -/
def tryrEv (j : Nat) (cs : List Str) (f : Fl) : Fl :=
  match f with
  | .exc c ρ => if c ∈ cs then (match ρ.getD j .no with
    | .v d => .rt (.d d)
    | _ => .stuck) else .stuck
  | f => f
/-- i = j, where j is a name's own: it is so no more -/
def mvEv (ρ : En) (i j : Nat) : Fl :=
  match ρ.getD j .no with
  | .v d => .nx (ρ.set i (.v d))
  | .ol ds => .nx ((ρ.set j (.v (.lst ds))).set i (.v (.lst ds)))
  | _ => .stuck
mutual
def evS (cl : Str → List D → R W) (gl : Str → Option D) : S → En → Fl
  | .asg g e, ρ => outR (evW cl gl e ρ) ρ fun w => outO (asgn g w.toD ρ)
  | .keep i e, ρ => outR (evW cl gl e ρ) ρ fun w => match ownOf w with
    | some s => .nx (ρ.set i s)
    | none => .stuck
  | .par is es, ρ => outR (evVs cl gl es ρ) ρ fun ds => outO (asgs is ds ρ)
  | .app i e, ρ => appOwn ρ i (evW cl gl e ρ)
  | .ext i e, ρ => extOwn ρ i (evW cl gl e ρ)
  | .put i k v, ρ => outR (evW cl gl v ρ) ρ fun w => putOwn ρ i (evW cl gl k ρ) w.toD
  | .ex e, ρ => outR (evW cl gl e ρ) ρ fun _ => .nx ρ
  | .ret e, ρ => retOf e ρ (evW cl gl e ρ)
  | .ret0, _ => .rt (.d .non)
  | .ife t a b, ρ => outR (tru (evW cl gl t ρ)) ρ fun c => if c = true then evSs cl gl a ρ else evSs cl gl b ρ
  | .for g it b, ρ => outR (evIt cl gl it ρ) ρ fun dsb => if dsb.2 = true then .stuck else forL g (fun ρ1 => evSs cl gl b ρ1) dsb.1 ρ
  | .while t b, ρ => whL (fun ρ1 => tru (evW cl gl t ρ1)) (fun ρ1 => evSs cl gl b ρ1) TURNS ρ
  | .raise c, ρ => .exc c ρ
  | .brk, ρ => .bk ρ
  | .cnt, ρ => .ct ρ
  | .pass, ρ => .nx ρ
  | .mv i j, ρ => mvEv ρ i j
  | .ins i k e, ρ => insOwn ρ i (evW cl gl k ρ) (evW cl gl e ρ)
  | .tryk i k b cs, ρ => tryEv i k cs (evSs cl gl b ρ)
  | .dpop i k, ρ => popOwn ρ i (evW cl gl k ρ)
  | .grp i e o it, ρ => outR (evIt cl gl it ρ) ρ fun dsb => if dsb.2 = true then .stuck else grpEv i e o dsb.1 ρ
  | .tryr j b cs, ρ => tryrEv j cs (evSs cl gl b ρ)
  | .dpopd i k, ρ => popdOwn ρ i (evW cl gl k ρ)
def evSs (cl : Str → List D → R W) (gl : Str → Option D) : Ss → En → Fl
  | .nil, ρ => .nx ρ
  | .cons s r, ρ => match evS cl gl s ρ with
    | .nx ρ1 => evSs cl gl r ρ1
    | f => f
end
def outF : Fl → R W
  | .nx _ => .ok (.d .non)
  | .rt w => .ok w
  | .exc c _ => .exc c
  | _ => .stuck
def start (fd : FD) (ds : List D) : En := ds.map Sl.v ++ List.replicate (fd.ns - ds.length) Sl.no
def run (Γ : Str → Option FD) (gl : Str → Option D) : Nat → Str → List D → R W
  | 0, _, _ => .stuck
  | n + 1, f, ds => match Γ f with
    | none => .stuck
    | some fd => if ds.length = fd.np then outF (evSs (run Γ gl n) gl fd.body (G81.start fd ds)) else .stuck
end G81
end
section
set_option Elab.async false
set_option linter.all false
set_option maxHeartbeats 4000000
namespace G81
open PySem L2

structure Gx where
  K : PySem.W.Frag
  mg : Str → Option Value

/-- an error of the class C, caught -/
def ExK (C a : Addr) : HO := .ext fun h => ∃ oe, h.get? a = some oe ∧ Zc (.ref C) none oe ∧ ∃ vs, oe.data = .fields vs
mutual
/-- the value d stands at v, in what will never change again -/
def Rep (G : Gx) (F : Hp) : D → V → Prop
  | .non, v => v = .non
  | .bl b, v => v = .bl b
  | .int i, v => v = .int i
  | .str s, v => v = .str s
  | .tup ds, v => ∃ a vs, v = .ref a ∧ Rd F a (.tup vs) ∧ Reps G F ds vs
  | .lst ds, v => ∃ a vs, v = .ref a ∧ Rd F a (.lst vs) ∧ Reps G F ds vs
  | .dic kvs, v => ∃ a us, v = .ref a ∧ Rd F a (.dK us) ∧ RepKs G F kvs us
  | .exc c, v => ∃ a C, v = .ref a ∧ G.mg c = some (.ref C) ∧ F a = some (ExK C a)
  | .fn f, v => ∃ a, v = .ref a ∧ G.mg f = some (.ref a)
def Reps (G : Gx) (F : Hp) : List D → List V → Prop
  | [], vs => vs = []
  | d :: r, vs => ∃ v w, vs = v :: w ∧ Rep G F d v ∧ Reps G F r w
def RepKs (G : Gx) (F : Hp) : List (Key × D) → List (Key × V) → Prop
  | [], us => us = []
  | (k, d) :: r, us => ∃ v w, us = (k, v) :: w ∧ Rep G F d v ∧ RepKs G F r w
end

theorem rd_mono {H H' : Hp} {a : Addr} {u : HO} (e : Same H H') (h : Rd H a u) : Rd H' a u := by
  rcases h with h | ⟨o, h⟩
  · exact .inl (e _ _ h)
  · exact .inr ⟨o, e _ _ h⟩

section
variable {G : Gx} {F F' H H' : Hp}
mutual
theorem Rep.mono (s : Same F F') : ∀ (d : D) {v : V}, Rep G F d v → Rep G F' d v
  | .non, _, h => h
  | .bl _, _, h => h
  | .int _, _, h => h
  | .str _, _, h => h
  | .tup ds, _, h => by
    obtain ⟨a, vs, e, h1, h2⟩ := h
    exact ⟨a, vs, e, rd_mono s h1, Reps.mono s ds h2⟩
  | .lst ds, _, h => by
    obtain ⟨a, vs, e, h1, h2⟩ := h
    exact ⟨a, vs, e, rd_mono s h1, Reps.mono s ds h2⟩
  | .dic kvs, _, h => by
    obtain ⟨a, us, e, h1, h2⟩ := h
    exact ⟨a, us, e, rd_mono s h1, RepKs.mono s kvs h2⟩
  | .exc _, _, h => by
    obtain ⟨a, C, e, m, q⟩ := h
    exact ⟨a, C, e, m, s _ _ q⟩
  | .fn _, _, h => h
theorem Reps.mono (s : Same F F') : ∀ (ds : List D) {vs : List V}, Reps G F ds vs → Reps G F' ds vs
  | [], _, h => h
  | d :: r, _, h => by
    obtain ⟨v, w, e, h1, h2⟩ := h
    exact ⟨v, w, e, Rep.mono s d h1, Reps.mono s r h2⟩
theorem RepKs.mono (s : Same F F') : ∀ (kvs : List (Key × D)) {us : List (Key × V)}, RepKs G F kvs us → RepKs G F' kvs us
  | [], _, h => h
  | (k, d) :: r, _, h => by
    obtain ⟨v, w, e, h1, h2⟩ := h
    exact ⟨v, w, e, Rep.mono s d h1, RepKs.mono s r h2⟩
end

theorem Reps.length : ∀ {ds : List D} {vs : List V}, Reps G F ds vs → vs.length = ds.length
  | [], _, h => by rw [show _ = [] from h]; rfl
  | d :: r, _, h => by
    obtain ⟨v, w, e, _, h2⟩ := h
    rw [e, List.length_cons, List.length_cons, Reps.length h2]
theorem Reps.get : ∀ {ds : List D} {vs : List V} {i : Nat} {d : D}, Reps G F ds vs → ds[i]? = some d → ∃ v, vs[i]? = some v ∧ Rep G F d v
  | [], _, _, _, _, h => by simp at h
  | x :: r, _, 0, d, h, e => by
    obtain ⟨v, w, ev, h1, _⟩ := h
    have e1 : x = d := Option.some.inj e
    rw [← e1, ev]
    exact ⟨v, rfl, h1⟩
  | x :: r, _, i + 1, d, h, e => by
    obtain ⟨v, w, ev, _, h2⟩ := h
    rw [ev]
    exact Reps.get (i := i) h2 e
theorem Reps.get' : ∀ {ds : List D} {vs : List V} {i : Nat} {v : V}, Reps G F ds vs → vs[i]? = some v → ∃ d, ds[i]? = some d ∧ Rep G F d v
  | [], _, _, _, h, e => by rw [show _ = [] from h] at e; simp at e
  | x :: r, _, 0, v, h, e => by
    obtain ⟨u, w, ev, h1, _⟩ := h
    rw [ev] at e
    have e1 : u = v := Option.some.inj e
    rw [← e1]
    exact ⟨x, rfl, h1⟩
  | x :: r, _, i + 1, v, h, e => by
    obtain ⟨u, w, ev, _, h2⟩ := h
    rw [ev] at e
    exact Reps.get' (i := i) h2 e
theorem Reps.append : ∀ {ds es : List D} {vs ws : List V}, Reps G F ds vs → Reps G F es ws → Reps G F (ds ++ es) (vs ++ ws)
  | [], _, _, _, h, h' => by rw [show _ = [] from h]; exact h'
  | x :: r, _, _, _, h, h' => by
    obtain ⟨v, w, e, h1, h2⟩ := h
    rw [e]
    exact ⟨v, _, rfl, h1, Reps.append h2 h'⟩
theorem Reps.one {d : D} {v : V} (h : Rep G F d v) : Reps G F [d] [v] := ⟨v, [], rfl, h, rfl⟩
theorem Reps.reverse : ∀ {ds : List D} {vs : List V}, Reps G F ds vs → Reps G F ds.reverse vs.reverse
  | [], _, h => by rw [show _ = [] from h]; rfl
  | d :: r, _, ⟨v, vs, e, h, t⟩ => by
    subst e
    rw [List.reverse_cons, List.reverse_cons]
    exact (Reps.reverse t).append (Reps.one h)
theorem Reps.drop : ∀ (n : Nat) {ds : List D} {vs : List V}, Reps G F ds vs → Reps G F (ds.drop n) (vs.drop n)
  | 0, _, _, h => h
  | n + 1, [], _, h => by rw [show _ = [] from h]; rfl
  | n + 1, x :: r, _, h => by
    obtain ⟨v, w, e, _, h2⟩ := h
    rw [e]
    exact Reps.drop n h2
theorem Reps.take : ∀ (n : Nat) {ds : List D} {vs : List V}, Reps G F ds vs → Reps G F (ds.take n) (vs.take n)
  | 0, _, _, _ => rfl
  | n + 1, [], _, h => by rw [show _ = [] from h]; rfl
  | n + 1, x :: r, _, h => by
    obtain ⟨v, w, e, h1, h2⟩ := h
    rw [e]
    exact ⟨v, _, rfl, h1, Reps.take n h2⟩
theorem Reps.set : ∀ (n : Nat) {ds : List D} {vs : List V} {d : D} {v : V}, Reps G F ds vs → Rep G F d v → Reps G F (ds.set n d) (vs.set n v)
  | _, [], _, _, _, h, _ => by rw [show _ = [] from h]; rfl
  | 0, x :: r, _, _, v, h, hd => by
    obtain ⟨u, w, e, _, h2⟩ := h
    rw [e]
    exact ⟨v, w, rfl, hd, h2⟩
  | n + 1, x :: r, _, _, v, h, hd => by
    obtain ⟨u, w, e, h1, h2⟩ := h
    rw [e]
    exact ⟨u, _, rfl, h1, Reps.set n h2 hd⟩
theorem Reps.rep {ds : List D} {vs : List V} (h : Reps G F ds vs) : ∀ k : Nat, Reps G F (List.replicate k ds).flatten (List.replicate k vs).flatten
  | 0 => rfl
  | k + 1 => by
    rw [List.replicate_succ, List.replicate_succ, List.flatten_cons, List.flatten_cons]
    exact Reps.append h (Reps.rep h k)

/-- F, what never changes again, and H, all, have grown -/
structure Ext (F H F' H' : Hp) : Prop where
  ff : Same F F'
  hh : Same H H'
  fh : Same F' H'
  new : ∀ a o, F' a = some o → F a = some o ∨ H a = none
theorem Ext.refl (s : Same F H) : Ext F H F H := ⟨Same.refl _, Same.refl _, s, fun _ _ e => .inl e⟩
theorem Ext.trans {F1 H1 F2 H2 : Hp} (a : Ext F H F1 H1) (b : Ext F1 H1 F2 H2) : Ext F H F2 H2 :=
  ⟨a.ff.trans b.ff, a.hh.trans b.hh, b.fh, fun p o e => by
    rcases b.new p o e with h | h
    · exact a.new p o h
    · exact .inr (a.hh.free h)⟩
theorem same_upd {p : Addr} {o : HO} (h : H p = none) : Same H (upd H p o) := fun b x e => by
  rw [upd_ne (ne_of_none e h)]
  exact e
/-- a new object that never changes -/
theorem Ext.lay {p : Addr} {o : HO} (s : Same F H) (n : H p = none) : Ext F H (upd F p o) (upd H p o) := by
  have nF : F p = none := s.free n
  refine ⟨same_upd nF, same_upd n, fun b x e => ?_, fun b x e => ?_⟩
  · by_cases hb : b = p
    · subst hb; rw [upd_same] at e ⊢; exact e
    · rw [upd_ne hb] at e ⊢; exact s _ _ e
  · by_cases hb : b = p
    · subst hb; exact .inr n
    · rw [upd_ne hb] at e; exact .inl e
/-- a new object that may change -/
theorem Ext.own {p : Addr} {o : HO} (s : Same F H) (n : H p = none) : Ext F H F (upd H p o) :=
  ⟨Same.refl _, same_upd n, s.trans (same_upd n), fun _ _ e => .inl e⟩

def WRep (G : Gx) (H F' H' : Hp) (w : W) (v : V) : Prop :=
  match w with
  | .d x => Rep G F' x v
  | .fl ds => ∃ p vs, v = .ref p ∧ H p = none ∧ F' p = none ∧ H' p = some (.lst vs) ∧ Reps G F' ds vs
  | .fd kvs => ∃ p us, v = .ref p ∧ H p = none ∧ F' p = none ∧ H' p = some (.dK us) ∧ RepKs G F' kvs us
theorem WRep.back {H0 : Hp} {w : W} {v : V} (s : Same H0 H) (h : WRep G H F' H' w v) : WRep G H0 F' H' w v := by
  cases w with
  | d x => exact h
  | fl ds => obtain ⟨p, vs, e, n, r⟩ := h; exact ⟨p, vs, e, s.free n, r⟩
  | fd ds => obtain ⟨p, vs, e, n, r⟩ := h; exact ⟨p, vs, e, s.free n, r⟩
/-- what is new is given away -/
theorem Ext.freeze {w : W} {v : V} (E : Ext F H F' H') (h : WRep G H F' H' w v) : ∃ F2, Ext F H F2 H' ∧ Same F' F2 ∧ Rep G F2 w.toD v := by
  cases w with
  | d x => exact ⟨F', E, Same.refl _, h⟩
  | fl ds =>
    obtain ⟨p, vs, e, n, nF, eH, r⟩ := h
    have s : Same F' (upd F' p (.lst vs)) := same_upd nF
    refine ⟨upd F' p (.lst vs), ⟨E.ff.trans s, E.hh, fun b x q => ?_, fun b x q => ?_⟩, s, p, vs, e, .inl upd_same, r.mono s⟩
    · by_cases hb : b = p
      · subst hb; rw [upd_same] at q; rw [← q]; exact eH
      · rw [upd_ne hb] at q; exact E.fh _ _ q
    · by_cases hb : b = p
      · subst hb; exact .inr n
      · rw [upd_ne hb] at q; exact E.new _ _ q
  | fd kvs =>
    obtain ⟨p, vs, e, n, nF, eH, r⟩ := h
    have s : Same F' (upd F' p (.dK vs)) := same_upd nF
    refine ⟨upd F' p (.dK vs), ⟨E.ff.trans s, E.hh, fun b x q => ?_, fun b x q => ?_⟩, s, p, vs, e, .inl upd_same, r.mono s⟩
    · by_cases hb : b = p
      · subst hb; rw [upd_same] at q; rw [← q]; exact eH
      · rw [upd_ne hb] at q; exact E.fh _ _ q
    · by_cases hb : b = p
      · subst hb; exact .inr n
      · rw [upd_ne hb] at q; exact E.new _ _ q

/-- d stands at v for the moment -/
def BRep (G : Gx) (F H : Hp) (d : D) (v : V) : Prop :=
  match d with
  | .lst ds => ∃ a vs, v = .ref a ∧ Rd H a (.lst vs) ∧ Reps G F ds vs
  | .dic kvs => ∃ a us, v = .ref a ∧ Rd H a (.dK us) ∧ RepKs G F kvs us
  | d => Rep G F d v
theorem BRep.of (s : Same F H) {d : D} {v : V} (h : Rep G F d v) : BRep G F H d v := by
  cases d with
  | lst ds => obtain ⟨a, vs, e, h1, h2⟩ := h; exact ⟨a, vs, e, rd_mono s h1, h2⟩
  | dic ds => obtain ⟨a, vs, e, h1, h2⟩ := h; exact ⟨a, vs, e, rd_mono s h1, h2⟩
  | _ => exact h
theorem BRep.mono (sF : Same F F') (sH : Same H H') {d : D} {v : V} (h : BRep G F H d v) : BRep G F' H' d v := by
  cases d with
  | lst ds => obtain ⟨a, vs, e, h1, h2⟩ := h; exact ⟨a, vs, e, rd_mono sH h1, h2.mono sF⟩
  | dic ds => obtain ⟨a, vs, e, h1, h2⟩ := h; exact ⟨a, vs, e, rd_mono sH h1, h2.mono sF⟩
  | _ => exact Rep.mono sF _ h
/-- all that stands now, seen as what never changes -/
theorem BRep.all (s : Same F H) {d : D} {v : V} (h : BRep G F H d v) : Rep G H d v := by
  cases d with
  | lst ds => obtain ⟨a, vs, e, h1, h2⟩ := h; exact ⟨a, vs, e, h1, h2.mono s⟩
  | dic ds => obtain ⟨a, vs, e, h1, h2⟩ := h; exact ⟨a, vs, e, h1, h2.mono s⟩
  | _ => exact Rep.mono s _ h
def BReps (G : Gx) (F H : Hp) : List D → List V → Prop
  | [], vs => vs = []
  | d :: r, vs => ∃ v w, vs = v :: w ∧ BRep G F H d v ∧ BReps G F H r w
theorem BReps.mono (sF : Same F F') (sH : Same H H') : ∀ (ds : List D) {vs : List V}, BReps G F H ds vs → BReps G F' H' ds vs
  | [], _, h => h
  | d :: r, _, h => by
    obtain ⟨v, w, e, h1, h2⟩ := h
    exact ⟨v, w, e, h1.mono sF sH, BReps.mono sF sH r h2⟩
theorem BReps.all (s : Same F H) : ∀ {ds : List D} {vs : List V}, BReps G F H ds vs → Reps G H ds vs
  | [], _, h => h
  | d :: r, _, h => by
    obtain ⟨v, w, e, h1, h2⟩ := h
    exact ⟨v, w, e, h1.all s, BReps.all s h2⟩
theorem Rep.scal {d : D} {v : V} (h : Rep G F d v) (hs : d.scal = true) : Rep G F' d v := by
  cases d <;> first | exact h | cases hs
end

def Sl.own : Sl → Bool
  | .ol _ => true
  | .od _ => true
  | _ => false
/-- the binder B stands at a, its steps at p and l -/
structure ObAt (G : Gx) (F H : Hp) (a p l : Addr) (B : Ob) : Prop where
  ins : ∃ C dx vh, G.mg "Binder" = some (.ref C) ∧ H a = some (.ins C dx [("held", vh), ("past", .ref p), ("later", .ref l)]) ∧ Rep G F (.dic B.held) vh
  hp : ∃ vs, H p = some (.lst vs) ∧ Reps G F B.past vs
  hl : ∃ vs, H l = some (.lst vs) ∧ Reps G F B.later vs
  np : p ≠ l
  fa : F a = none
  fp : F p = none
  fl : F l = none
/-- a frame's beginning: what never changes, and which binders the slots have -/
structure Fr where
  f : Hp
  s : Nat → Option Addr
/-- the slots' binders: each stands there, no two have anything together -/
structure ObCl (G : Gx) (Z : Fr) (H : Hp) (ρ : En) (σ : St) : Prop where
  at_ : ∀ (i : Nat) (B : Ob), ρ[i]? = some (.ob B) → ∃ a p l, σ[i]? = some (some (.ref a)) ∧ Z.s i = some a ∧ ObAt G Z.f H a p l B
  sep : ∀ (i j : Nat) (B B' : Ob) (a p l a' p' l' : Addr), i ≠ j → ρ[i]? = some (.ob B) → ρ[j]? = some (.ob B') → σ[i]? = some (some (.ref a)) → σ[j]? = some (some (.ref a')) → ObAt G Z.f H a p l B → ObAt G Z.f H a' p' l' B' →
    a ≠ a' ∧ p ≠ p' ∧ p ≠ l' ∧ l ≠ p' ∧ l ≠ l'
structure Rel (G : Gx) (F0 : Fr) (H0 : Hp) (ρ : En) (F : Hp) (σ : St) (H : Hp) : Prop where
  f0 : Same F0.f F
  h0 : Same H0 H
  fh : Same F H
  new : ∀ a o, F a = some o → F0.f a = some o ∨ H0 a = none
  len : σ.length = ρ.length
  val : ∀ (i : Nat) (d : D), ρ[i]? = some (.v d) → ∃ v, σ[i]? = some (some v) ∧ Rep G F d v
  ol : ∀ (i : Nat) (ds : List D), ρ[i]? = some (.ol ds) → ∃ p vs, σ[i]? = some (some (.ref p)) ∧ H0 p = none ∧ F p = none ∧ H p = some (.lst vs) ∧ Reps G F ds vs
  od : ∀ (i : Nat) (kvs : List (Key × D)), ρ[i]? = some (.od kvs) → ∃ p us, σ[i]? = some (some (.ref p)) ∧ H0 p = none ∧ F p = none ∧ H p = some (.dK us) ∧ RepKs G F kvs us
  sep : ∀ (i j : Nat) (p : Addr) (s t : Sl), i ≠ j → ρ[i]? = some s → ρ[j]? = some t → s.own = true → t.own = true → σ[i]? = some (some (.ref p)) → σ[j]? = some (some (.ref p)) → False
  obj : ObCl G F0 H0 ρ σ
section
variable {G : Gx} {F0 : Fr} {H0 F F' H H' : Hp} {ρ : En} {σ : St}
theorem ObAt.there {a p l : Addr} {B : Ob} (h : ObAt G F H a p l B) : H a ≠ none ∧ H p ≠ none ∧ H l ≠ none := by
  obtain ⟨C, dx, vh, _, e, _⟩ := h.ins
  obtain ⟨vs, e2, _⟩ := h.hp
  obtain ⟨ws, e3, _⟩ := h.hl
  rw [e, e2, e3]
  exact ⟨by simp, by simp, by simp⟩
theorem ObAt.uniq {F' : Hp} {a p l p' l' : Addr} {B B' : Ob} (h : ObAt G F H a p l B) (h' : ObAt G F' H a p' l' B') : p = p' ∧ l = l' := by
  obtain ⟨C, dx, vh, _, e, _⟩ := h.ins
  obtain ⟨C', dx', vh', _, e', _⟩ := h'.ins
  rw [e] at e'
  simp only [Option.some.injEq, HO.ins.injEq, List.cons.injEq, Prod.mk.injEq, V.ref.injEq, and_true, true_and] at e'
  exact ⟨e'.2.2.2.1, e'.2.2.2.2⟩
/-- only slots that hold no binder were changed -/
theorem ObCl.part {Z : Fr} {H : Hp} {ρ1 : En} {σ1 : St} (h : ObCl G Z H ρ σ) (i : ∀ (j : Nat) (B : Ob), ρ1[j]? = some (.ob B) → ρ[j]? = some (.ob B) ∧ σ1[j]? = σ[j]?) : ObCl G Z H ρ1 σ1 :=
  ⟨fun j B e => by
    obtain ⟨e1, e2⟩ := i j B e
    rw [e2]
    exact h.at_ j B e1, fun j k B B' a p l a' p' l' n e e' q q' o o' => by
    obtain ⟨e1, e2⟩ := i j B e
    obtain ⟨e3, e4⟩ := i k B' e'
    rw [e2] at q
    rw [e4] at q'
    exact h.sep j k B B' a p l a' p' l' n e1 e3 q q' o o'⟩
theorem ObCl.set {Z : Fr} {H : Hp} (h : ObCl G Z H ρ σ) {i : Nat} {s : Sl} (hs : ∀ B, s ≠ .ob B) (v : Option V) : ObCl G Z H (ρ.set i s) (σ.set i v) := h.part fun j B e => by
  by_cases c : i = j
  · subst c
    have hl : i < (ρ.set i s).length := (List.getElem?_eq_some_iff.mp e).1
    rw [List.length_set] at hl
    rw [List.getElem?_set_self hl] at e
    exact absurd (Option.some.inj e) (hs B)
  · rw [List.getElem?_set_ne c] at e
    exact ⟨e, List.getElem?_set_ne c⟩
theorem ObCl.setL {Z : Fr} {H : Hp} (h : ObCl G Z H ρ σ) {i : Nat} {s : Sl} (hs : ∀ B, s ≠ .ob B) : ObCl G Z H (ρ.set i s) σ := h.part fun j B e => by
  by_cases c : i = j
  · subst c
    have hl : i < (ρ.set i s).length := (List.getElem?_eq_some_iff.mp e).1
    rw [List.length_set] at hl
    rw [List.getElem?_set_self hl] at e
    exact absurd (Option.some.inj e) (hs B)
  · rw [List.getElem?_set_ne c] at e
    exact ⟨e, rfl⟩
theorem ObCl.no {Z : Fr} {H : Hp} (h : ∀ (j : Nat) (B : Ob), ρ[j]? ≠ some (.ob B)) : ObCl G Z H ρ σ := ⟨fun j B e => absurd e (h j B), fun j _ B _ _ _ _ _ _ _ _ e => absurd e (h j B)⟩
theorem Rel.out (R : Rel G F0 H0 ρ F σ H) : Ext F0.f H0 F H := ⟨R.f0, R.h0, R.fh, R.new⟩
theorem Rel.ext (R : Rel G F0 H0 ρ F σ H) (E : Ext F H F' H') : Rel G F0 H0 ρ F' σ H' where
  f0 := R.f0.trans E.ff
  h0 := R.h0.trans E.hh
  fh := E.fh
  new := (R.out.trans E).new
  len := R.len
  val := fun i d e => by obtain ⟨v, h1, h2⟩ := R.val i d e; exact ⟨v, h1, h2.mono E.ff⟩
  ol := fun i ds e => by
    obtain ⟨p, vs, h1, h2, h3, h4, h5⟩ := R.ol i ds e
    refine ⟨p, vs, h1, h2, ?_, E.hh _ _ h4, h5.mono E.ff⟩
    cases q : F' p with
    | none => rfl
    | some o => rcases E.new p o q with z | z
                · rw [h3] at z; cases z
                · rw [h4] at z; cases z
  od := fun i ds e => by
    obtain ⟨p, vs, h1, h2, h3, h4, h5⟩ := R.od i ds e
    refine ⟨p, vs, h1, h2, ?_, E.hh _ _ h4, h5.mono E.ff⟩
    cases q : F' p with
    | none => rfl
    | some o => rcases E.new p o q with z | z
                · rw [h3] at z; cases z
                · rw [h4] at z; cases z
  sep := R.sep
  obj := R.obj
theorem set_at {α : Type} {l : List α} {i j : Nat} {x y : α} (h : (l.set i x)[j]? = some y) : (i = j ∧ y = x) ∨ (i ≠ j ∧ l[j]? = some y) := by
  by_cases e : i = j
  · subst e
    left
    have hl : i < (l.set i x).length := (List.getElem?_eq_some_iff.mp h).1
    rw [List.length_set] at hl
    rw [List.getElem?_set_self hl] at h
    exact ⟨rfl, (Option.some.inj h).symm⟩
  · rw [List.getElem?_set_ne e] at h
    exact .inr ⟨e, h⟩
theorem Rel.lt (R : Rel G F0 H0 ρ F σ H) {i : Nat} (h : i < ρ.length) : i < σ.length := by rw [R.len]; exact h
/-- a slot gets a value -/
theorem Rel.set (R : Rel G F0 H0 ρ F σ H) {i : Nat} {d : D} {v : V} (h : Rep G F d v) : Rel G F0 H0 (ρ.set i (.v d)) F (σ.set i (some v)) H where
  f0 := R.f0
  h0 := R.h0
  fh := R.fh
  new := R.new
  len := by rw [List.length_set, List.length_set, R.len]
  val := fun j e q => by
    rcases set_at q with ⟨rfl, z⟩ | ⟨n, q⟩
    · injection z with z; subst z
      have hl : i < ρ.length := by
        have := (List.getElem?_eq_some_iff.mp q).1
        rw [List.length_set] at this; exact this
      exact ⟨v, List.getElem?_set_self (R.lt hl), h⟩
    · obtain ⟨u, h1, h2⟩ := R.val j e q
      exact ⟨u, by rw [List.getElem?_set_ne n]; exact h1, h2⟩
  ol := fun j e q => by
    rcases set_at q with ⟨rfl, z⟩ | ⟨n, q⟩
    · cases z
    · obtain ⟨p, vs, h1, h2⟩ := R.ol j e q
      exact ⟨p, vs, by rw [List.getElem?_set_ne n]; exact h1, h2⟩
  od := fun j e q => by
    rcases set_at q with ⟨rfl, z⟩ | ⟨n, q⟩
    · cases z
    · obtain ⟨p, vs, h1, h2⟩ := R.od j e q
      exact ⟨p, vs, by rw [List.getElem?_set_ne n]; exact h1, h2⟩
  sep := fun a b p s t hne ha hb hs ht h1 h2 => by
    rcases set_at ha with ⟨rfl, q⟩ | ⟨na, qa⟩
    · subst q; cases hs
    · rcases set_at hb with ⟨rfl, q⟩ | ⟨nb, qb⟩
      · subst q; cases ht
      · rw [List.getElem?_set_ne na] at h1
        rw [List.getElem?_set_ne nb] at h2
        exact R.sep a b p s t hne qa qb hs ht h1 h2
  obj := R.obj.set (fun _ z => by cases z) _
/-- a list that was a name's own, and is so no more -/
theorem Rel.frz (R : Rel G F0 H0 ρ F σ H) {i : Nat} {ds : List D} {p : Addr} {vs : List V} (e : ρ[i]? = some (.ol ds)) (q : σ[i]? = some (some (.ref p))) (h0 : H0 p = none) (hf : F p = none) (hh : H p = some (.lst vs)) (r : Reps G F ds vs) :
    Rel G F0 H0 (ρ.set i (.v (.lst ds))) (upd F p (.lst vs)) σ H ∧ Same F (upd F p (.lst vs)) ∧ Rep G (upd F p (.lst vs)) (.lst ds) (.ref p) := by
  have s : Same F (upd F p (.lst vs)) := same_upd hf
  have rp : Rep G (upd F p (.lst vs)) (.lst ds) (.ref p) := ⟨p, vs, rfl, .inl upd_same, r.mono s⟩
  refine ⟨⟨R.f0.trans s, R.h0, fun b o z => ?_, fun b o z => ?_, by rw [List.length_set, R.len], fun j d z => ?_, fun j es z => ?_, fun j es z => ?_, fun a b p' t u hne ha hb ht hu h1 h2 => ?_, R.obj.setL fun _ z => by cases z⟩, s, rp⟩
  · by_cases c : b = p
    · subst c; rw [upd_same] at z; cases z; exact hh
    · rw [upd_ne c] at z; exact R.fh b o z
  · by_cases c : b = p
    · subst c; exact .inr h0
    · rw [upd_ne c] at z; exact R.new b o z
  · rcases set_at z with ⟨rfl, w⟩ | ⟨n, w⟩
    · injection w with w; subst w
      exact ⟨_, q, rp⟩
    · obtain ⟨u, h1, h2⟩ := R.val j d w
      exact ⟨u, h1, h2.mono s⟩
  · rcases set_at z with ⟨rfl, w⟩ | ⟨n, w⟩
    · cases w
    · obtain ⟨p', vs', h1, h2, h3, h4, h5⟩ := R.ol j es w
      refine ⟨p', vs', h1, h2, ?_, h4, h5.mono s⟩
      rw [upd_ne (fun c => R.sep i j p _ _ n e w rfl rfl q (by rw [← c]; exact h1))]
      exact h3
  · rcases set_at z with ⟨rfl, w⟩ | ⟨n, w⟩
    · cases w
    · obtain ⟨p', vs', h1, h2, h3, h4, h5⟩ := R.od j es w
      refine ⟨p', vs', h1, h2, ?_, h4, h5.mono s⟩
      rw [upd_ne (fun c => R.sep i j p _ _ n e w rfl rfl q (by rw [← c]; exact h1))]
      exact h3
  · rcases set_at ha with ⟨rfl, w⟩ | ⟨na, ha⟩
    · subst w; cases ht
    · rcases set_at hb with ⟨rfl, w⟩ | ⟨nb, hb⟩
      · subst w; cases hu
      · exact R.sep a b p' t u hne ha hb ht hu h1 h2
theorem Rel.own_at (R : Rel G F0 H0 ρ F σ H) {i : Nat} {s : Sl} (e : ρ[i]? = some s) (hs : s.own = true) {p : Addr} (q : σ[i]? = some (some (.ref p))) : H0 p = none ∧ F p = none ∧ ∃ o, H p = some o := by
  cases s with
  | ol ds => obtain ⟨p', vs, h1, h2, h3, h4, _⟩ := R.ol i ds e; rw [q] at h1; cases h1; exact ⟨h2, h3, _, h4⟩
  | od ds => obtain ⟨p', vs, h1, h2, h3, h4, _⟩ := R.od i ds e; rw [q] at h1; cases h1; exact ⟨h2, h3, _, h4⟩
  | no => cases hs
  | v d => cases hs
  | ob B => cases hs
/-- a slot gets what is new: it alone has it -/
theorem Rel.setOwn (R : Rel G F0 H0 ρ F σ H) (E : Ext F H F' H') {w : W} {s : Sl} (hw : ownOf w = some s) {i : Nat} {v : V} (h : WRep G H F' H' w v) : Rel G F0 H0 (ρ.set i s) F' (σ.set i (some v)) H' := by
  have R' := R.ext E
  have key : ∃ p, v = .ref p ∧ H p = none ∧ s.own = true := by
    cases w with
    | d x => cases hw
    | fl ds => cases hw; obtain ⟨p, vs, e, n, _⟩ := h; exact ⟨p, e, n, rfl⟩
    | fd ds => cases hw; obtain ⟨p, vs, e, n, _⟩ := h; exact ⟨p, e, n, rfl⟩
  obtain ⟨p, ev, np, hso⟩ := key
  subst ev
  have far : ∀ (j : Nat) (t : Sl) (q : Addr), ρ[j]? = some t → t.own = true → σ[j]? = some (some (.ref q)) → q ≠ p := fun j t q e1 e2 e3 z => by
    obtain ⟨_, _, o, e⟩ := R.own_at e1 e2 e3
    rw [z, np] at e; cases e
  refine ⟨R'.f0, R'.h0, R'.fh, R'.new, by rw [List.length_set, List.length_set, R'.len], fun j e q => ?_, fun j e q => ?_, fun j e q => ?_, fun a b q x t hne ha hb hx ht h1 h2 => ?_, R'.obj.set (fun B z => by subst z; cases hso) _⟩
  · rcases set_at q with ⟨rfl, z⟩ | ⟨n, q⟩
    · subst z; cases hso
    · obtain ⟨u, h1, h2⟩ := R'.val j e q
      exact ⟨u, by rw [List.getElem?_set_ne n]; exact h1, h2⟩
  · rcases set_at q with ⟨rfl, q'⟩ | ⟨n, q⟩
    · have hl : i < ρ.length := by
        have := (List.getElem?_eq_some_iff.mp q).1
        rw [List.length_set] at this; exact this
      cases w with
      | d x => cases hw
      | fd ds => cases hw; cases q'
      | fl ds =>
        cases hw; cases q'
        obtain ⟨p', vs, e, n, nF, eH, r⟩ := h
        cases e
        exact ⟨p, vs, List.getElem?_set_self (R.lt hl), R.h0.free n, nF, eH, r⟩
    · obtain ⟨p', vs, h1, h2⟩ := R'.ol j e q
      exact ⟨p', vs, by rw [List.getElem?_set_ne n]; exact h1, h2⟩
  · rcases set_at q with ⟨rfl, q'⟩ | ⟨n, q⟩
    · have hl : i < ρ.length := by
        have := (List.getElem?_eq_some_iff.mp q).1
        rw [List.length_set] at this; exact this
      cases w with
      | d x => cases hw
      | fl ds => cases hw; cases q'
      | fd ds =>
        cases hw; cases q'
        obtain ⟨p', vs, e, n, nF, eH, r⟩ := h
        cases e
        exact ⟨p, vs, List.getElem?_set_self (R.lt hl), R.h0.free n, nF, eH, r⟩
    · obtain ⟨p', vs, h1, h2⟩ := R'.od j e q
      exact ⟨p', vs, by rw [List.getElem?_set_ne n]; exact h1, h2⟩
  · rcases set_at ha with ⟨rfl, qa⟩ | ⟨na, qa⟩
    · rcases set_at hb with ⟨rfl, qb⟩ | ⟨nb, qb⟩
      · exact hne rfl
      · have hl : i < σ.length := by
          have := (List.getElem?_eq_some_iff.mp h1).1
          rw [List.length_set] at this; exact this
        rw [List.getElem?_set_self hl] at h1
        cases h1
        rw [List.getElem?_set_ne nb] at h2
        exact far b t p qb ht h2 rfl
    · rw [List.getElem?_set_ne na] at h1
      rcases set_at hb with ⟨rfl, qb⟩ | ⟨nb, qb⟩
      · have hl : i < σ.length := by
          have := (List.getElem?_eq_some_iff.mp h2).1
          rw [List.length_set] at this; exact this
        rw [List.getElem?_set_self hl] at h2
        cases h2
        exact far a x p qa hx h1 rfl
      · rw [List.getElem?_set_ne nb] at h2
        exact R.sep a b q x t hne qa qb hx ht h1 h2
/-- the list, the dict of a slot is changed in its place -/
theorem Rel.change (R : Rel G F0 H0 ρ F σ H) {i : Nat} {s s' : Sl} {p : Addr} {o : HO} (e : ρ[i]? = some s) (hs : s.own = true) (q : σ[i]? = some (some (.ref p)))
    (h1 : ∀ ds, s' = .ol ds → ∃ vs, o = .lst vs ∧ Reps G F ds vs) (h2 : ∀ ds, s' = .od ds → ∃ vs, o = .dK vs ∧ RepKs G F ds vs) (hs' : s'.own = true) : Rel G F0 H0 (ρ.set i s') F σ (upd H p o) := by
  obtain ⟨n0, nF, o', eH⟩ := R.own_at e hs q
  have hl : i < ρ.length := (List.getElem?_eq_some_iff.mp e).1
  have far : ∀ (j : Nat) (t : Sl) (z : Addr), j ≠ i → ρ[j]? = some t → t.own = true → σ[j]? = some (some (.ref z)) → z ≠ p := fun j t z hne e1 e2 e3 hz => by
    subst hz
    exact R.sep j i z t s hne e1 e e2 hs e3 q
  refine ⟨R.f0, fun b x z => ?_, fun b x z => ?_, R.new, by rw [List.length_set, R.len], fun j d z => ?_, fun j ds z => ?_, fun j ds z => ?_, fun a b r x t hne ha hb hx ht g1 g2 => ?_, R.obj.setL fun B z => by subst z; cases hs'⟩
  · rw [upd_ne (ne_of_none z n0)]; exact R.h0 _ _ z
  · rw [upd_ne (ne_of_none z nF)]; exact R.fh _ _ z
  · rcases set_at z with ⟨rfl, y⟩ | ⟨n, z⟩
    · subst y; cases hs'
    · exact R.val j d z
  · rcases set_at z with ⟨rfl, y⟩ | ⟨n, z⟩
    · obtain ⟨vs, eo, r⟩ := h1 ds y.symm
      subst eo
      exact ⟨p, vs, q, n0, nF, upd_same, r⟩
    · obtain ⟨p', vs, g1, g2, g3, g4, g5⟩ := R.ol j ds z
      exact ⟨p', vs, g1, g2, g3, by rw [upd_ne (far j _ p' (Ne.symm n) z rfl g1)]; exact g4, g5⟩
  · rcases set_at z with ⟨rfl, y⟩ | ⟨n, z⟩
    · obtain ⟨vs, eo, r⟩ := h2 ds y.symm
      subst eo
      exact ⟨p, vs, q, n0, nF, upd_same, r⟩
    · obtain ⟨p', vs, g1, g2, g3, g4, g5⟩ := R.od j ds z
      exact ⟨p', vs, g1, g2, g3, by rw [upd_ne (far j _ p' (Ne.symm n) z rfl g1)]; exact g4, g5⟩
  · have own' : ∀ (j : Nat) (t : Sl), (ρ.set i s')[j]? = some t → t.own = true → ∃ t', ρ[j]? = some t' ∧ t'.own = true := fun j t hj ht' => by
      rcases set_at hj with ⟨rfl, _⟩ | ⟨_, hj⟩
      · exact ⟨s, e, hs⟩
      · exact ⟨t, hj, ht'⟩
    obtain ⟨x', ea, ex⟩ := own' a x ha hx
    obtain ⟨t', eb, et⟩ := own' b t hb ht
    exact R.sep a b r x' t' hne ea eb ex et g1 g2
theorem wipeE_at : ∀ (l : List Nat) {i : Nat} {s : Sl}, (wipeE ρ l)[i]? = some s → s = .no ∨ (i ∉ l ∧ ρ[i]? = some s)
  | [], _, _, h => .inr ⟨by simp, h⟩
  | a :: l, i, s, h => by
    rcases set_at (show ((wipeE ρ l).set a .no)[i]? = some s from h) with ⟨_, q⟩ | ⟨n, q⟩
    · exact .inl q
    · rcases wipeE_at l q with z | ⟨z1, z2⟩
      · exact .inl z
      · refine .inr ⟨fun hm => ?_, z2⟩
        rcases List.mem_cons.mp hm with z | z
        · exact n z.symm
        · exact z1 z
theorem wipeE_len : ∀ (l : List Nat), (wipeE ρ l).length = ρ.length
  | [] => rfl
  | a :: l => by rw [show wipeE ρ (a :: l) = (wipeE ρ l).set a .no from rfl, List.length_set, wipeE_len l]
theorem wipe_at {σ : St} : ∀ {l : List Nat} {i : Nat}, i ∉ l → (L2.wipe σ l)[i]? = σ[i]?
  | [], _, _ => rfl
  | a :: l, i, h => by
    have h1 : a ≠ i := fun z => h (by rw [z]; exact List.mem_cons_self)
    have h2 : i ∉ l := fun z => h (List.mem_cons_of_mem _ z)
    rw [show L2.wipe σ (a :: l) = (L2.wipe σ l).set a none from rfl, List.getElem?_set_ne h1]
    exact wipe_at h2
theorem Rel.wipe (R : Rel G F0 H0 ρ F σ H) (l : List Nat) : Rel G F0 H0 (wipeE ρ l) F (L2.wipe σ l) H := by
  refine ⟨R.f0, R.h0, R.fh, R.new, by rw [wipe_length, wipeE_len, R.len], fun j d z => ?_, fun j ds z => ?_, fun j ds z => ?_, fun a b r x t hne ha hb hx ht g1 g2 => ?_, R.obj.part fun j B e => ?_⟩
  · rcases wipeE_at l z with z | ⟨n, z⟩
    · cases z
    · rw [wipe_at n]; exact R.val j d z
  · rcases wipeE_at l z with z | ⟨n, z⟩
    · cases z
    · rw [wipe_at n]; exact R.ol j ds z
  · rcases wipeE_at l z with z | ⟨n, z⟩
    · cases z
    · rw [wipe_at n]; exact R.od j ds z
  · rcases wipeE_at l ha with z | ⟨na, za⟩
    · subst z; cases hx
    · rcases wipeE_at l hb with z | ⟨nb, zb⟩
      · subst z; cases ht
      · rw [wipe_at na] at g1
        rw [wipe_at nb] at g2
        exact R.sep a b r x t hne za zb hx ht g1 g2
  · rcases wipeE_at l e with z | ⟨n, z⟩
    · cases z
    · exact ⟨z, wipe_at n⟩
theorem getD_of {ρ : En} {i : Nat} {s : Sl} (h : ρ.getD i .no = s) (hs : s ≠ .no) : ρ[i]? = some s := by
  rw [List.getD_eq_getElem?_getD] at h
  cases e : ρ[i]? with
  | none => rw [e] at h; exact absurd h.symm hs
  | some t => rw [e] at h; rw [show t = s from h]
end
end G81
end
section
set_option Elab.async false
set_option linter.all false
set_option maxHeartbeats 4000000
namespace G81
open PySem PySem.Spec PyProof.Rows L2
theorem sky_imp {B : Heap} {l : List Env} {a L : Addr} {Z Z' : Obj → Prop} {h : Heap} (z : ∀ o, Z o → Z' o) (x : Sky B l a Z L h) : Sky B l a Z' L h := by
  rcases x with ⟨h1, h2, h3, oe, vs, he, hz, r⟩ | ⟨h1, h2, h3, oe, vs, T, oT, ts, he, hz, r⟩ | ⟨h1, h2, h3, oe, vs, T, oT, ts, he, hz, r⟩
  · exact .inl ⟨h1, h2, h3, oe, vs, he, z _ hz, r⟩
  · exact .inr (.inl ⟨h1, h2, h3, oe, vs, T, oT, ts, he, z _ hz, r⟩)
  · exact .inr (.inr ⟨h1, h2, h3, oe, vs, T, oT, ts, he, z _ hz, r⟩)
theorem xe_of {X : Cx} {W : WX} {u : Value} {s : Shared} (x : L2N.XE X W u s) : L2.XE X W u s := by
  obtain ⟨a, B, sI, pins, σ, H, cls, d, h1, h2, h3, h4, sky, r⟩ := x
  exact ⟨a, B, sI, pins, σ, H, cls, d, h1, h2, h3, h4, sky_imp (fun _ z => z.zc) sky, r⟩
/-- who takes all takes these -/
theorem takes_n {X : Cx} {W : WX} (t : L2.Takes X W) : L2N.Takes X W := fun u s x => t u s (xe_of x)
theorem cx_of {P : Program} {w : World} {outer : List Env} {H : Hp} {s : Shared} {E : XK} {u : Value} {s' : Shared} (c : L2N.CX P w outer H s E u s') : L2.CX P w outer H s E u s' := by
  obtain ⟨a, B, H', cls, d, h1, ⟨f1, f2, f3, oe, vs, T, oT, ts, he, hz, r⟩, h3⟩ := c
  exact ⟨a, B, H', cls, d, h1, ⟨f1, f2, f3, oe, vs, T, oT, ts, he, hz.zc, r⟩, h3⟩
/-- a def that promises more -/
theorem fn_wide {P : Program} {w : World} {K : PySem.W.Frag} {mg : Str → Option Value} {base : Heap} {k : Nat} {f : Addr} {fd : FuncData} {ps : List Str} {sp : Sp} (F : FnOk P w K mg base (L2N.CX P w) k f fd ps sp) : FnOk P w K mg base (L2.CX P w) k f fd ps sp :=
  ⟨F.len, fun A outer s H args us vs Q E hr e0 hb hv q => codeAny_mono (F.run A outer s H args us vs Q E hr e0 hb hv q) fun r t c => by
    cases r with
    | ok f => cases f <;> exact c
    | error e => exact cx_of c⟩
/-- as Fun.okX, whatever the context says of errors -/
theorem okC {CX : CXT} {P : Program} {w : World} {K : PySem.W.Frag} {mg : Str → Option Value} {base : Heap} {x qual : Str} {st : Stmt} {f : Addr} {fd : FuncData} {N ps : List Str} {k : Nat} {sp : Sp} (F : Fun K x qual st f fd) (S : FnScope N ps (defScope st)) (len : ∀ vs H Q E, sp vs H Q E → vs.length = ps.length)
    (hbody : ∀ (cdv : Value) (A : Around) (outer : List Env) (s : Shared) (H : Hp) (vs : List V) (Q : VK) (E : XK), Room k (A.deeper (envOfC qual (defScope st) s.heap.objs.size f cdv)) → sp vs H Q E →
      ∃ t, PSs (cxOf CX P w K mg base N qual (defScope st) f cdv A outer s H E) (defBody st) t ∧ t { nx := fun _ H' => Q .non H', rt := Q } (L2.start N vs) H) : FnOk P w K mg base CX (k + 1) f fd ps sp := by
  obtain ⟨oc, od, kV, doc, pm, an, cdv, ct, osl, rfl, lk, hcd⟩ := F.ex
  exact fn_of lk hcd S len fun A outer s H vs Q E hr hsp => hbody cdv A outer s H vs Q E hr hsp
theorem passN {X : Cx} {E : XK} (h : Passes (L2.CX X.prog X.w) X E) : Passes (L2N.CX X.prog X.w) X E := fun pins σ H s e s' I c => h pins σ H s e s' I (cx_of c)
end G81
end
section
set_option Elab.async false
set_option linter.all false
set_option maxHeartbeats 4000000
namespace G81
open PySem PySem.Spec L2

def gx (X : Cx) : Gx := ⟨X.K, X.mg⟩
def Out {α : Type} (r : R α) (ok : α → Prop) (thr : Str → Prop) : Prop :=
  match r with
  | .ok a => ok a
  | .exc c => thr c
  | .stuck => False
section
variable {α β : Type} {r : R α} {ok ok' : α → Prop} {thr thr' : Str → Prop}
theorem Out.bind {f : α → R β} {ok : β → Prop} (h : Out (r.bind f) ok thr) : Out r (fun a => Out (f a) ok thr) thr := by cases r <;> exact h
theorem Out.map {f : α → β} {ok : β → Prop} (h : Out (r.map f) ok thr) : Out r (fun a => ok (f a)) thr := by cases r <;> exact h
theorem Out.imp (h : Out r ok thr) (h1 : ∀ a, r = .ok a → ok a → ok' a) (h2 : ∀ c, thr c → thr' c) : Out r ok' thr' := by
  cases r with
  | ok a => exact h1 a rfl h
  | exc c => exact h2 c h
  | stuck => exact h
theorem Out.of {o : Option α} (h : Out (R.of o) ok thr) : ∃ a, o = some a ∧ ok a := by
  cases o with
  | some a => exact ⟨a, rfl, h⟩
  | none => exact h.elim
end
/-- wanted of an exception of the class c -/
def Thr (G : Gx) (Wx : WX) (c : Str) (F : Hp) (σ : St) (H : Hp) : Prop := ∀ F' H' a, G.mg c = some (.ref a) → Ext F H F' H' → Wx (.ref a) none σ H'
theorem Thr.ext {G : Gx} {Wx : WX} {c : Str} {F H F1 H1 : Hp} {σ : St} (h : Thr G Wx c F σ H) (E : Ext F H F1 H1) : Thr G Wx c F1 σ H1 := fun F' H' a e E' => h F' H' a e (E.trans E')

def okW (G : Gx) (F H : Hp) (Q : VK) (w : W) : Prop := ∀ F' H' v, Ext F H F' H' → WRep G H F' H' w v → Q v H'
def tD (G : Gx) (Wx : WX) (f : En → R W) : TE := fun σ H Q => ∃ F0 H0 F ρ, Rel G F0 H0 ρ F σ H ∧ Out (f ρ) (okW G F H Q) (fun c => Thr G Wx c F σ H)
def okB (G : Gx) (F H : Hp) (l : Bool) (Q : VK) (d : D) : Prop := ∀ F' H' v, Ext F H F' H' → BRep G F' H' d v → (l = false → Rep G F' d v) → Q v H'
def tBo (G : Gx) (Wx : WX) (f : En → R D) (l : En → Bool) : TE := fun σ H Q => ∃ F0 H0 F ρ, Rel G F0 H0 ρ F σ H ∧ Out (f ρ) (okB G F H (l ρ) Q) (fun c => Thr G Wx c F σ H)
def tTt (G : Gx) (Wx : WX) (f : En → R Bool) : TT := fun σ H Q => ∃ F0 H0 F ρ, Rel G F0 H0 ρ F σ H ∧ Out (f ρ) (fun b => ∀ F' H', Ext F H F' H' → Q b H') (fun c => Thr G Wx c F σ H)
def tAs (G : Gx) (Wx : WX) (f : En → R (List D × Bool)) : TA := fun σ H Q => ∃ F0 H0 F ρ, Rel G F0 H0 ρ F σ H ∧
  Out (f ρ) (fun db => ∀ F' H' vs, Ext F H F' H' → BReps G F' H' db.1 vs → (db.2 = false → Reps G F' db.1 vs) → Q vs H') (fun c => Thr G Wx c F σ H)
def tVs (G : Gx) (Wx : WX) (f : En → R (List D)) : TA := fun σ H Q => ∃ F0 H0 F ρ, Rel G F0 H0 ρ F σ H ∧
  Out (f ρ) (fun ds => ∀ F' H' vs, Ext F H F' H' → Reps G F' ds vs → Q vs H') (fun c => Thr G Wx c F σ H)
def tOs (G : Gx) (Wx : WX) (f : En → R (Option Int)) : TO := fun σ H Q => ∃ F0 H0 F ρ, Rel G F0 H0 ρ F σ H ∧
  Out (f ρ) (fun o => ∀ F' H', Ext F H F' H' → Q o H') (fun c => Thr G Wx c F σ H)

section
variable {X : Cx}
theorem PE_imp {e : Expr} {t t' : TE} (h : PE X e t) (i : ∀ σ H Q, t' σ H Q → t σ H Q) : PE X e t' := ⟨fun pins s σ H Q I q => h.run pins s σ H Q I (i σ H Q q)⟩
theorem PT_imp {e : Expr} {t t' : TT} (h : PT X e t) (i : ∀ σ H Q, t' σ H Q → t σ H Q) : PT X e t' := ⟨fun pins s σ H Q I q => h.run pins s σ H Q I (i σ H Q q)⟩
theorem PW_imp {e : Expr} {t t' : TT} (h : PW X e t) (i : ∀ σ H Q, t' σ H Q → t σ H Q) : PW X e t' := ⟨fun wh pins s σ H Q I q => h.run wh pins s σ H Q I (i σ H Q q)⟩
theorem PA_imp {e : List Expr} {t t' : TA} (h : PA X e t) (i : ∀ σ H Q, t' σ H Q → t σ H Q) : PA X e t' := ⟨fun pos pins s σ H Q I q => h.run pos pins s σ H Q I (i σ H Q q)⟩
theorem PO_imp {e : Option Expr} {t t' : TO} (h : PO X e t) (i : ∀ σ H Q, t' σ H Q → t σ H Q) : PO X e t' := ⟨fun pins s σ H Q I q => h.run pins s σ H Q I (i σ H Q q)⟩
theorem PS_imp {st : Stmt} {t t' : TS} (h : PS X st t) (i : ∀ D σ H, t' D σ H → t D σ H) : PS X st t' := ⟨fun pins s σ H D I q => h.run pins s σ H D I (i D σ H q)⟩
theorem PSs_imp {st : List Stmt} {t t' : TS} (h : PSs X st t) (i : ∀ D σ H, t' D σ H → t D σ H) : PSs X st t' := ⟨fun pins s σ H D I q => h.run pins s σ H D I (i D σ H q)⟩

/-- an answer w of an operator on values -/
def ans (G : Gx) (F H : Hp) (Q : VK) (r : R W) : Prop := Out r (okW G F H Q) (fun _ => False)
def rD2 (G : Gx) (g : D → D → R W) : R2 := fun x y H Q => ∃ F a b, Same F H ∧ BRep G F H a x ∧ BRep G F H b y ∧ ans G F H Q (g a b)
variable {G : Gx} {F H : Hp} {Q : VK}
theorem okW.d {d : D} {v : V} (h : okW G F H Q (.d d)) (s : Same F H) (r : Rep G F d v) : Q v H := h F H v (Ext.refl s) r
theorem okW.scal {d : D} {v : V} (h : okW G F H Q (.d d)) (s : Same F H) (r : ∀ F, Rep G F d v) : Q v H := h F H v (Ext.refl s) (r F)
theorem okW.tup {ds : List D} {vs : List V} (h : okW G F H Q (.d (.tup ds))) (s : Same F H) (r : Reps G F ds vs) {p : Addr} (n : H p = none) : Q (.ref p) (upd H p (.tup vs)) := by
  have E := Ext.lay (o := .tup vs) s n
  exact h _ _ _ E ⟨p, vs, rfl, .inl upd_same, r.mono E.ff⟩
theorem okW.fl {ds : List D} {vs : List V} (h : okW G F H Q (.fl ds)) (s : Same F H) (r : Reps G F ds vs) {p : Addr} (n : H p = none) : Q (.ref p) (upd H p (.lst vs)) :=
  h _ _ _ (Ext.own (o := .lst vs) s n) ⟨p, vs, rfl, n, s.free n, upd_same, r⟩
theorem okW.fd {ds : List (Key × D)} {vs : List (Key × V)} (h : okW G F H Q (.fd ds)) (s : Same F H) (r : RepKs G F ds vs) {p : Addr} (n : H p = none) : Q (.ref p) (upd H p (.dK vs)) :=
  h _ _ _ (Ext.own (o := .dK vs) s n) ⟨p, vs, rfl, n, s.free n, upd_same, r⟩
theorem sizes {n : Nat} (h : n ≤ SIZE) : n ≤ sizeLine := by
  have : (SIZE : Nat) ≤ sizeLine := by decide
  omega
theorem Inv.rdL {pins : List (Addr × Obj)} {σ : St} {s : Shared} {l : Addr} {xs : List V} (I : Inv X pins σ H s) (h : Rd H l (.lst xs)) :
    xs.length ≤ sizeLine ∧ ∃ (its : List Value) (n : Nat), Vals xs its ∧ xs.length = its.length ∧ s.heap.get? l = some { cls := .type "list", data := .seq its.toArray n } := by
  obtain ⟨z, its, n, r, e⟩ := h.ok I.hok
  exact ⟨z, its, n, r, r.length, e⟩

theorem add_ok : OpR X (binaryOp .Add) (rD2 (gx X) addEv) := by
  intro pins s σ H x y v u Q I rx ry h
  obtain ⟨F, a, b, sF, ba, bb, o⟩ := h
  unfold addEv at o
  split at o
  · rename_i i j
    cases ba; cases bb
    exact op_add pins s σ H _ _ v u Q I rx ry ⟨i, j, rfl, rfl, okW.scal o sF fun _ => rfl⟩
  · rename_i i j
    cases ba; cases bb
    split at o
    · rename_i hs
      exact op_add_str pins s σ H _ _ v u Q I rx ry ⟨i, j, rfl, rfl, sizes hs, okW.scal o sF fun _ => rfl⟩
    · exact o.elim
  · rename_i xs ys
    split at o
    · rename_i hs
      obtain ⟨l, vs, rfl, hl, r1⟩ := ba
      obtain ⟨m, ws, rfl, hm, r2⟩ := bb
      cases rx; cases ry
      obtain ⟨z, its, n, r, hl, e⟩ := Inv.rdL I hl
      obtain ⟨z2, its2, n2, r', hl2, e2⟩ := Inv.rdL I hm
      have hz : its.length + its2.length ≤ sizeLine := by
        rw [← hl, ← hl2, r1.length, r2.length]; exact sizes hs
      refine PySem.P.add_list e e2 ?_ (by rw [List.size_toArray, List.size_toArray]; omega)
      have ea : its.toArray ++ its2.toArray = (its ++ its2).toArray := by simp
      rw [ea]
      exact ⟨.ref _, _, I.lnew (t' := s.toks) (r.append r') (by rw [List.length_append]; omega), rfl, okW.fl o sF (r1.append r2) I.fresh⟩
    · exact o.elim
  · rename_i xs ys
    split at o
    · rename_i hs
      obtain ⟨l, vs, rfl, hl, r1⟩ := ba
      obtain ⟨m, ws, rfl, hm, r2⟩ := bb
      refine op_catA pins s σ H _ _ v u Q I rx ry ⟨l, m, vs, ws, rfl, rfl, .inl (rd_mono sF hl), .inl (rd_mono sF hm), by rw [r1.length, r2.length]; exact sizes hs, fun e => ?_, fun _ e => ?_, fun _ _ p np => okW.tup o sF (r1.append r2) np⟩
      · subst e
        cases xs with
        | cons a b => obtain ⟨_, _, e, _⟩ := r1; cases e
        | nil => exact okW.d o sF ⟨m, ws, rfl, hm, r2⟩
      · subst e
        cases ys with
        | cons a b => obtain ⟨_, _, e, _⟩ := r2; cases e
        | nil => rw [List.append_nil] at o; exact okW.d o sF ⟨l, vs, rfl, hl, r1⟩
    · exact o.elim
  · exact o.elim
theorem sub_ok : OpR X (binaryOp .Sub) (rD2 (gx X) subEv) := by
  intro pins s σ H x y v u Q I rx ry h
  obtain ⟨F, a, b, sF, ba, bb, o⟩ := h
  unfold subEv at o
  split at o
  · rename_i i j
    cases ba; cases bb
    exact op_sub pins s σ H _ _ v u Q I rx ry ⟨i, j, rfl, rfl, okW.scal o sF fun _ => rfl⟩
  · exact o.elim
/-- a list times a number, the list locked or not -/
theorem rep_raw {pins : List (Addr × Obj)} {s : Shared} {σ : St} {H : Hp} {l : Addr} {xs : List V} {k : Int} {t : Tok} {Q : VK} (I : Inv X pins σ H s)
    (hH : Rd H l (.lst xs)) (h1 : -(2 ^ 63) ≤ k) (h2 : k < 2 ^ 63) (hz : xs.length * k.toNat ≤ sizeLine)
    (q : ∀ p, H p = none → Q (.ref p) (upd H p (.lst (List.replicate k.toNat xs).flatten))) :
    wpAny (model X.prog X.w) X.A (binaryOp .Mult (.ref l) (.int k t)) (EP X pins σ Q) X.xe s := by
  obtain ⟨z, its, n, r, hl, e⟩ := Inv.rdL I hH
  have size_le : its.toArray.size * k.toNat ≤ sizeLine := by
    rw [List.size_toArray, ← hl]
    exact hz
  have b63 : (sizeLine : Nat) ≤ (2 ^ 63 - 1) / 8 := by decide
  have small : ¬ its.toArray.size * k.toNat > (2 ^ 63 - 1) / 8 := fun w => by omega
  have fitting : ¬ (!Builtin.List.listFitsIndex k) = true := fun w => by
    rw [fitsIndex_both h1 h2] at w
    cases w
  have short : ¬ Builtin.List.listTooLong (its.toArray.size * k.toNat) = true := fun w => by
    rw [notLongL size_le] at w
    cases w
  have fold0 (m : Nat) : List.foldl (fun a b => a ++ b) #[] (List.replicate m its.toArray) = (List.replicate m its).flatten.toArray := by
    have f := foldl_rep its m []
    simpa using f
  have made : List.foldl (fun a b => a ++ b) #[] (List.replicate (if its.toArray.isEmpty = true then 0 else k.toNat) its.toArray)
      = (List.replicate k.toNat its).flatten.toArray := by
    rw [fold0]
    cases its with
    | nil => simp
    | cons a r' => simp
  have inner := AutoListH.list___mul___list_int_3 l its.toArray n k t fitting small short
  refine wpAny_binaryOp_repeat_ref (T := "list") (U := "int") (by decide) ⟨_, e, rfl⟩
    (fun s' => typeIs_int s' k t) noFill_list_mul F.fills_int_mul
    F.slot_int_rmul repeat_list F.slot_int_index.lookup ?_
  refine call_meets F.slot_int_rmul (typeIs_int s k t) F.entry_int_rmul
    (F.args_int_rmul_2 _ _) (int___rmul___int_list k t l its.toArray n) ⟨e, rfl, ⟨_, e, rfl⟩, ?_⟩
  refine call_meets F.slot_list_mul ⟨_, e, rfl⟩ F.entry_list_mul
    (F.args_list_mul_2 _ _) inner ⟨e, ?_⟩
  rw [made]
  refine ⟨.ref _, _, I.lnew (t' := s.toks) (r.rep k.toNat) ?_, rfl, q _ I.fresh⟩
  rw [PyProof.Rows.lm_len_rep_flat, Nat.mul_comm]
  exact hz
theorem mul_ok : OpR X (binaryOp .Mult) (rD2 (gx X) mulEv) := by
  intro pins s σ H x y v u Q I rx ry h
  obtain ⟨F, a, b, sF, ba, bb, o⟩ := h
  unfold mulEv at o
  split at o
  · rename_i i j
    cases ba; cases bb
    split at o
    · rename_i hs
      exact op_mul pins s σ H _ _ v u Q I rx ry ⟨i, j, rfl, rfl, hs, okW.scal o sF fun _ => rfl⟩
    · exact o.elim
  · rename_i xs j
    split at o
    · rename_i hs
      obtain ⟨l, vs, rfl, hl, r1⟩ := ba
      cases bb
      cases rx
      obtain ⟨t, rfl⟩ := ry
      have hb : xs.length * j.toNat ≤ 1000 * 1000 := Nat.mul_le_mul hs.2.2 (by omega)
      have hc : (1000 * 1000 : Nat) ≤ sizeLine := by decide
      exact rep_raw I hl (by omega) (by omega) (by rw [r1.length]; omega) fun p np => okW.fl o sF (r1.rep _) np
    · exact o.elim
  · rename_i xs j
    split at o
    · rename_i hs
      obtain ⟨l, vs, rfl, hl, r1⟩ := ba
      cases bb
      refine L2.op_repT pins s σ H _ _ v u Q I rx ry ⟨l, j, vs, rfl, rfl, .inl (rd_mono sF hl), fun z => ?_, hs.1, hs.2.1, by rw [r1.length]; exact hs.2.2.1, fun p np => okW.tup o sF (r1.rep _) np⟩
      have := r1.length
      rw [z] at this
      exact hs.2.2.2 (List.eq_nil_of_length_eq_zero this.symm)
    · exact o.elim
  · exact o.elim
theorem fdiv_ok : OpR X (binaryOp .FloorDiv) (rD2 (gx X) fdivEv) := by
  intro pins s σ H x y v u Q I rx ry h
  obtain ⟨F, a, b, sF, ba, bb, o⟩ := h
  unfold fdivEv at o
  split at o
  · rename_i i j
    cases ba; cases bb
    split at o
    · rename_i hs
      exact op_fdiv pins s σ H _ _ v u Q I rx ry ⟨i, j, rfl, rfl, hs, okW.scal o sF fun _ => rfl⟩
    · exact o.elim
  · exact o.elim
theorem mod_ok : OpR X (binaryOp .Mod) (rD2 (gx X) modEv) := by
  intro pins s σ H x y v u Q I rx ry h
  obtain ⟨F, a, b, sF, ba, bb, o⟩ := h
  unfold modEv at o
  split at o
  · rename_i i j
    cases ba; cases bb
    split at o
    · rename_i hs
      exact op_mod pins s σ H _ _ v u Q I rx ry ⟨i, j, rfl, rfl, hs, okW.scal o sF fun _ => rfl⟩
    · exact o.elim
  · exact o.elim
theorem pow_ok : OpR X (binaryOp .Pow) (rD2 (gx X) powEv) := by
  intro pins s σ H x y v u Q I rx ry h
  obtain ⟨F, a, b, sF, ba, bb, o⟩ := h
  unfold powEv at o
  split at o
  · rename_i i j
    cases ba; cases bb
    split at o
    · rename_i hs
      exact op_pow pins s σ H _ _ v u Q I rx ry ⟨i, j, rfl, rfl, ⟨hs.1, by omega, hs.2.2⟩, okW.scal o sF fun _ => rfl⟩
    · exact o.elim
  · exact o.elim
theorem OpR_imp {f : Value → Value → Sem Value} {r r' : R2} (h : OpR X f r) (i : ∀ x y H Q, r' x y H Q → r x y H Q) : OpR X f r' := fun pins s σ H x y v u Q I rx ry q => h pins s σ H x y v u Q I rx ry (i x y H Q q)
theorem bin_ok (op : Operator) : OpR X (binaryOp op) (rD2 (gx X) (binEv op)) := by
  have bad : ∀ op, (∀ a b, binEv op a b = .stuck) → OpR X (binaryOp op) (rD2 (gx X) (binEv op)) := fun op h pins s σ H x y v u Q I rx ry q => by
    obtain ⟨F, a, b, _, _, _, o⟩ := q
    rw [h] at o
    exact o.elim
  cases op
  case Add => exact add_ok
  case Sub => exact sub_ok
  case Mult => exact mul_ok
  case FloorDiv => exact fdiv_ok
  case Mod => exact mod_ok
  case Pow => exact pow_ok
  all_goals exact bad _ fun _ _ => rfl
end
end G81
end
section
set_option Elab.async false
set_option linter.all false
set_option maxHeartbeats 4000000
namespace G81
open PySem PySem.Spec L2
section
variable {G : Gx} {F F' H H' : Hp}
mutual
theorem plain_toP : ∀ (n : Nat) (d : D), D.pl n d = true → d.toP.plain = true ∧ d.toP.depth ≤ n
  | _, .non, _ => ⟨rfl, by simp [D.toP, PyData.depth]⟩
  | _, .bl _, _ => ⟨rfl, by simp [D.toP, PyData.depth]⟩
  | _, .int _, _ => ⟨rfl, by simp [D.toP, PyData.depth]⟩
  | _, .str _, _ => ⟨rfl, by simp [D.toP, PyData.depth]⟩
  | 0, .tup _, h => by simp [D.pl] at h
  | n + 1, .tup ds, h => by
    have q := plain_toPs n ds (by simpa [D.pl] using h)
    simp only [D.toP, PyData.plain, PyData.depth]
    exact ⟨q.1, by omega⟩
  | 0, .lst _, h => by simp [D.pl] at h
  | n + 1, .lst ds, h => by
    have q := plain_toPs n ds (by simpa [D.pl] using h)
    simp only [D.toP, PyData.plain, PyData.depth]
    exact ⟨q.1, by omega⟩
  | _, .dic _, h => by simp [D.pl] at h
  | _, .exc _, h => by simp [D.pl] at h
  | _, .fn _, h => by simp [D.pl] at h
theorem plain_toPs : ∀ (n : Nat) (ds : List D), D.pls n ds = true → PyData.plainAll (D.toPs ds) = true ∧ PyData.depthAll (D.toPs ds) ≤ n
  | _, [], _ => ⟨rfl, by simp [D.toPs, PyData.depthAll]⟩
  | n, d :: r, h => by
    have h' : D.pl n d = true ∧ D.pls n r = true := by simpa [D.pls] using h
    have q1 := plain_toP n d h'.1
    have q2 := plain_toPs n r h'.2
    simp only [D.toPs, PyData.plainAll, PyData.depthAll, q1.1, q2.1]
    exact ⟨rfl, by omega⟩
end
mutual
theorem dp_of (s : Same F H) : ∀ (n : Nat) (d : D) {v : V}, D.pl n d = true → Rep G F d v → Dp G.K H v d.toP
  | _, .non, _, _, h => by cases h; exact .non
  | _, .bl _, _, _, h => by cases h; exact .bl _
  | _, .int _, _, _, h => by cases h; exact .int _
  | _, .str _, _, _, h => by cases h; exact .str _
  | 0, .tup _, _, p, _ => by simp [D.pl] at p
  | n + 1, .tup ds, _, p, h => by
    obtain ⟨a, vs, e, h1, h2⟩ := h
    subst e
    exact .tup (.inl (rd_mono s h1)) (dps_of s n ds (by simpa [D.pl] using p) h2)
  | 0, .lst _, _, p, _ => by simp [D.pl] at p
  | n + 1, .lst ds, _, p, h => by
    obtain ⟨a, vs, e, h1, h2⟩ := h
    subst e
    exact .lst (.inl (rd_mono s h1)) (dps_of s n ds (by simpa [D.pl] using p) h2)
  | _, .dic _, _, p, _ => by simp [D.pl] at p
  | _, .exc _, _, p, _ => by simp [D.pl] at p
  | _, .fn _, _, p, _ => by simp [D.pl] at p
theorem dps_of (s : Same F H) : ∀ (n : Nat) (ds : List D) {vs : List V}, D.pls n ds = true → Reps G F ds vs → DpAll G.K H vs (D.toPs ds)
  | _, [], _, _, h => by rw [show _ = [] from h]; exact .nil
  | n, d :: r, _, p, h => by
    obtain ⟨v, w, e, h1, h2⟩ := h
    subst e
    have p' : D.pl n d = true ∧ D.pls n r = true := by simpa [D.pls] using p
    exact .cons (dp_of s n d p'.1 h1) (dps_of s n r p'.2 h2)
end
theorem dp_bor (s : Same F H) {n : Nat} {d : D} {v : V} (p : D.pl n d = true) (h : BRep G F H d v) : Dp G.K H v d.toP :=
  dp_of (Same.refl H) n d p (h.all s)
theorem toPs_map : ∀ ds : List D, D.toPs ds = ds.map D.toP
  | [] => rfl
  | d :: r => by rw [D.toPs, toPs_map r]; rfl
theorem toPs_any (f : PyData → Bool) (ds : List D) : (D.toPs ds).any f = ds.any fun d => f d.toP := by
  rw [toPs_map, List.any_map]
  rfl
theorem key_rep {d : D} {k : Key} {v : V} (e : key? d = some k) (h : Rep G F d v) : v = kV k := by
  cases d <;> simp [key?] at e
  · subst e; exact h
  · subst e; exact h
theorem valK_rep {k : Key} : ∀ {kvs : List (Key × D)} {us : List (Key × V)}, RepKs G F kvs us →
    (valD kvs k = none ∧ valV us k = none) ∨ ∃ d v, valD kvs k = some d ∧ valV us k = some v ∧ Rep G F d v
  | [], _, h => by rw [show _ = [] from h]; exact .inl ⟨rfl, rfl⟩
  | (j, d) :: r, _, h => by
    obtain ⟨v, w, e, h1, h2⟩ := h
    subst e
    by_cases hj : j = k
    · refine .inr ⟨d, v, ?_, ?_, h1⟩
      · simp [valD, hj]
      · simp [valV, hj]
    · have e1 : valD ((j, d) :: r) k = valD r k := by simp [valD, hj]
      have e2 : valV ((j, v) :: w) k = valV w k := by simp [valV, hj]
      rw [e1, e2]
      exact valK_rep h2
theorem RepKs.length : ∀ {kvs : List (Key × D)} {us : List (Key × V)}, RepKs G F kvs us → us.length = kvs.length
  | [], _, h => by rw [show _ = [] from h]; rfl
  | (k, d) :: r, _, h => by
    obtain ⟨v, w, e, _, h2⟩ := h
    rw [e, List.length_cons, List.length_cons, RepKs.length h2]
theorem flat_rep {d e : D} {v w : V} (h : flatEq d (some e) = true) (r : Rep G F d v) (r' : Rep G F' e w) : w = v ∧ flatB v = true := by
  unfold flatEq at h
  split at h
  · rename_i q
    cases q
    cases r; cases r'; exact ⟨rfl, rfl⟩
  · rename_i q
    cases q
    cases r; cases r'
    rw [eq_of_beq h]
    exact ⟨rfl, rfl⟩
  · rename_i q
    cases q
    cases r; cases r'
    rw [of_decide_eq_true h]
    exact ⟨rfl, rfl⟩
  · rename_i q
    cases q
    cases r; cases r'
    rw [of_decide_eq_true h]
    exact ⟨rfl, rfl⟩
  · cases h
theorem dic_rows {ls : List (Key × D)} {vs : List (Key × V)} (rl : RepKs G F' ls vs) : ∀ {ks : List (Key × D)} {us : List (Key × V)}, RepKs G F ks us → (ks.all fun p => flatEq p.2 (valD ls p.1)) = true → ∀ p ∈ us, valV vs p.1 = some p.2 ∧ flatB p.2 = true
  | [], _, h, _, p, hp => by rw [show _ = [] from h] at hp; cases hp
  | (k, d) :: r, _, h, a, p, hp => by
    obtain ⟨v, w, e, h1, h2⟩ := h
    subst e
    rw [List.all_cons, Bool.and_eq_true] at a
    rcases List.mem_cons.mp hp with rfl | hp
    · rcases valK_rep (k := k) rl with ⟨e1, _⟩ | ⟨e', v', e1, e2, r'⟩
      · have a1 := a.1
        dsimp only at a1
        rw [e1] at a1
        unfold flatEq at a1
        split at a1 <;> rename_i q <;> first | cases q | cases a1
      · have a1 := a.1
        dsimp only at a1
        rw [e1] at a1
        obtain ⟨q1, q2⟩ := flat_rep a1 h1 r'
        exact ⟨by rw [e2, q1], q2⟩
    · exact dic_rows rl h2 a.2 p hp
theorem dropD_rep {k : Key} : ∀ {kvs : List (Key × D)} {us : List (Key × V)}, RepKs G F kvs us → RepKs G F (dropD kvs k) (dropK us k)
  | [], _, h => by rw [show _ = [] from h]; rfl
  | (j, d) :: r, _, h => by
    obtain ⟨v, w, e, h1, h2⟩ := h
    subst e
    unfold dropD dropK
    by_cases hj : j = k
    · rw [List.filter_cons_of_neg (by simp [hj]), List.filter_cons_of_neg (by simp [hj])]
      exact dropD_rep h2
    · rw [List.filter_cons_of_pos (by simp [hj]), List.filter_cons_of_pos (by simp [hj])]
      exact ⟨v, _, rfl, h1, dropD_rep h2⟩
end
section
variable {X : Cx}
/-- two dicts compared, wherever they stand -/
def rDicC (r : Bool) : R2 := fun x y H Q => ∃ p q us vs, (x = .ref p ∧ y = .ref q) ∧ (Rd H p (.dK us) ∧ Rd H q (.dK vs)) ∧ us.length = vs.length ∧ (∀ z ∈ us, valV vs z.1 = some z.2 ∧ flatB z.2 = true) ∧ Q (.bl r) H
theorem dic_eqR (hu : X.A.units < cLine) : OpR X (compareOp .Eq) (rDicC true) := by
  intro pins s σ H x y v u Q I rx ry ⟨p, q, us, vs, ⟨e1, e2⟩, ⟨h1, h2⟩, hl, hz, k⟩
  subst e1 e2
  cases rx
  cases ry
  obtain ⟨_, y1, w1, r1, d1⟩ := (show ObjOk X.prog X.w H s.heap p (.dK us) from h1.ok I.hok)
  obtain ⟨_, y2, w2, r2, d2⟩ := (show ObjOk X.prog X.w H s.heap q (.dK vs) from h2.ok I.hok)
  have e : w1.length = w2.length := by rw [← r1.length, ← r2.length]; exact hl
  exact PySem.W.keq_eq (knd := mixKind X.prog X.w) (r := true) y1 y2 d1 d2 hu (fun _ => hits_all r2 r1 hz) (fin_bl I k (by simp [e]))
theorem dic_neR (hu : X.A.units < cLine) : OpR X (compareOp .NotEq) (rDicC false) := by
  intro pins s σ H x y v u Q I rx ry ⟨p, q, us, vs, ⟨e1, e2⟩, ⟨h1, h2⟩, hl, hz, k⟩
  subst e1 e2
  cases rx
  cases ry
  obtain ⟨_, y1, w1, r1, d1⟩ := (show ObjOk X.prog X.w H s.heap p (.dK us) from h1.ok I.hok)
  obtain ⟨_, y2, w2, r2, d2⟩ := (show ObjOk X.prog X.w H s.heap q (.dK vs) from h2.ok I.hok)
  have e : w1.length = w2.length := by rw [← r1.length, ← r2.length]; exact hl
  exact PySem.W.keq_ne (knd := mixKind X.prog X.w) (r := true) y1 y2 d1 d2 hu (fun _ => hits_all r2 r1 hz) (fin_bl I k (by simp [e]))
theorem hits_rows {pins : List (Addr × Obj)} {σ : St} {H F : Hp} {s : Shared} {A : Around} (I : Inv X pins σ H s) (sF : Same F H) (hu : A.units + 40 < cLine) {ls : List (Key × D)} {vs : List (Key × V)} {vb : List (Key × Value)} (rl : RepKs (gx X) F ls vs) (rb : KV vs vb) :
    ∀ {ks : List (Key × D)} {us : List (Key × V)} {va : List (Key × Value)}, RepKs (gx X) F ks us → KV us va → (ks.all fun p => rowEq p.2 (valD ls p.1)) = true → PySem.W.KeqHits A s vb va true
  | [], us, va, h, ra, _ => by
    rw [show us = [] from h] at ra
    unfold KV at ra
    cases ra
    exact .nil
  | (k, d) :: r, us, va, h, ra, a => by
    obtain ⟨v, w, e, h1, h2⟩ := h
    subst e
    unfold KV at ra
    cases ra with
    | @cons p q ps qs hh t =>
      obtain ⟨g1, g2⟩ := hh
      rw [List.all_cons, Bool.and_eq_true] at a
      rcases valK_rep (k := k) rl with ⟨e1, _⟩ | ⟨e', v', e1, e2, r'⟩
      · have a1 := a.1
        dsimp only at a1
        rw [e1] at a1
        cases a1
      · have a1 := a.1
        dsimp only at a1
        rw [e1] at a1
        have a1 : (D.pl NEST d && (D.pl NEST e' && eqb d e')) = true := a1
        simp only [Bool.and_eq_true] at a1
        obtain ⟨p1, p2, p3⟩ := a1
        have rr : RelO (some v') (valueAt vb k) := by rw [← e2]; exact rb.val k
        obtain ⟨y, hy, ry⟩ := rr.some_of
        obtain ⟨k', u⟩ := q
        have g1 : k = k' := g1
        subst g1
        obtain ⟨as, r1⟩ := Dp.reads I _ v u (dp_bor sF p1 (.of sF h1)) g2
        obtain ⟨bs, r2⟩ := Dp.reads I _ v' y (dp_bor sF p2 (.of sF r')) ry
        have q1 := plain_toP _ _ p1
        have q2 := plain_toP _ _ p2
        have hn : NEST = 20 := rfl
        have ea := SeqAt.eqAt_plain d.toP e'.toP A s u y as bs r1 r2 q1.1 q2.1 (by omega)
        rw [show PyData.eqv d.toP e'.toP = true from p3] at ea
        show PySem.W.KeqHits A s vb ((k, u) :: qs) (true && true)
        exact .hit hy ea (hits_rows I sF hu rl rb h2 t a.2)
/-- two dicts of plain values compared -/
theorem dic_eqP (hu : X.A.units + 64 < cLine) {pins : List (Addr × Obj)} {σ : St} {H F : Hp} {s : Shared} {p q : Addr} {us vs : List (Key × V)} {ks ls : List (Key × D)} {Q : VK} (I : Inv X pins σ H s) (sF : Same F H) (h1 : Rd H p (.dK us)) (h2 : Rd H q (.dK vs)) (k1 : RepKs (gx X) F ks us) (k2 : RepKs (gx X) F ls vs)
    (hl : ks.length = ls.length) (a : (ks.all fun p => rowEq p.2 (valD ls p.1)) = true) :
    (Q (.bl true) H → wpAny (model X.prog X.w) X.A (compareOp .Eq (.ref p) (.ref q)) (EP X pins σ Q) X.xe s) ∧ (Q (.bl false) H → wpAny (model X.prog X.w) X.A (compareOp .NotEq (.ref p) (.ref q)) (EP X pins σ Q) X.xe s) := by
  obtain ⟨_, y1, w1, r1, d1⟩ := (show ObjOk X.prog X.w H s.heap p (.dK us) from h1.ok I.hok)
  obtain ⟨_, y2, w2, r2, d2⟩ := (show ObjOk X.prog X.w H s.heap q (.dK vs) from h2.ok I.hok)
  have e : w1.length = w2.length := by rw [← r1.length, ← r2.length, k1.length, k2.length]; exact hl
  have hi : PySem.W.KeqHits X.A.in1 s w2 w1 true := hits_rows I sF (by show X.A.units + 1 + 40 < cLine; omega) k2 r2 k1 r1 a
  exact ⟨fun k => PySem.W.keq_eq (knd := mixKind X.prog X.w) (r := true) y1 y2 d1 d2 (by omega) (fun _ => hi) (fin_bl I k (by simp [e])), fun k => PySem.W.keq_ne (knd := mixKind X.prog X.w) (r := true) y1 y2 d1 d2 (by omega) (fun _ => hi) (fin_bl I k (by simp [e]))⟩
theorem DGet_rd {H : Hp} {a : Addr} {kvs : List (Key × V)} {k : Key} (e : Rd H a (.dK kvs)) : DGet H a (kV k) (valV kvs k) := .inl ⟨kvs, k, e, rfl, rfl⟩
/-- a comparison's answer -/
def rC2 (G : Gx) (g : D → D → R Bool) : R2 := fun x y H Q => ∃ F a b, Same F H ∧ BRep G F H a x ∧ BRep G F H b y ∧ Out (g a b) (fun k => Q (.bl k) H) (fun _ => False)
theorem not_out {r : R Bool} {ok : Bool → Prop} {thr : Str → Prop} (h : Out (notR r) ok thr) : Out r (fun k => ok (!k)) thr := h.map
theorem lens_ne (hu : X.A.units + 64 < cLine) {pins : List (Addr × Obj)} {σ : St} {s : Shared} {ds es : List D} {x y : V} {v u : Value} (I : Inv X pins σ H s) (h1 : BRep (gx X) F H (.lst ds) x) (h2 : BRep (gx X) F H (.lst es) y) (rx : RelV x v) (ry : RelV y u) (hl : ds.length ≠ es.length) :
    (Q (.bl false) H → wpAny (model X.prog X.w) X.A (compareOp .Eq v u) (EP X pins σ Q) X.xe s) ∧ (Q (.bl true) H → wpAny (model X.prog X.w) X.A (compareOp .NotEq v u) (EP X pins σ Q) X.xe s) := by
  obtain ⟨p, us, rfl, e1, k1⟩ := h1
  obtain ⟨q, vs, rfl, e2, k2⟩ := h2
  cases rx
  cases ry
  obtain ⟨i1, r1, l1, _⟩ := I.list (a := p) (xs := us) (.inl e1)
  obtain ⟨i2, r2, l2, _⟩ := I.list (a := q) (xs := vs) (.inl e2)
  have z : (i1.toArray.size != i2.toArray.size) = true := by
    rw [List.size_toArray, List.size_toArray, ← r1.length, ← r2.length, k1.length, k2.length]
    simpa using hl
  exact ⟨fun k => SeqAt.RcAt.lists_lengths l1.isList l2.isList z (by omega) X.prog X.w X.xe _ ⟨.bl false, H, I, rfl, k⟩, fun k => SeqAt.RcNeAt.lists_lengths l1.isList l2.isList z (by omega) X.prog X.w X.xe _ ⟨.bl true, H, I, rfl, k⟩⟩
theorem eq_ok (hu : X.A.units + 64 < cLine) : OpR X (compareOp .Eq) (rC2 (gx X) eqR) := by
  intro pins s σ H x y v u Q I rx ry h
  obtain ⟨F, a, b, sF, ba, bb, o⟩ := h
  unfold eqR at o
  split at o
  · rename_i hp
    have hp : D.pl NEST a = true ∧ D.pl NEST b = true := by simpa using hp
    obtain ⟨as, r1⟩ := Dp.reads I _ x v (dp_bor sF hp.1 ba) rx
    obtain ⟨bs, r2⟩ := Dp.reads I _ y u (dp_bor sF hp.2 bb) ry
    have p1 := plain_toP _ _ hp.1
    have p2 := plain_toP _ _ hp.2
    have hn : NEST = 20 := rfl
    exact SeqAt.eq_plain r1 r2 p1.1 p2.1 (by omega) ⟨.bl _, H, I, rfl, o⟩
  · unfold dicR at o
    split at o
    · split at o
      · rename_i hk
        obtain ⟨p, us, rfl, e1, k1⟩ := ba
        obtain ⟨q, vs, rfl, e2, k2⟩ := bb
        exact dic_eqR (by omega) pins s σ H _ _ v u Q I rx ry ⟨p, q, us, vs, ⟨rfl, rfl⟩, ⟨e1, e2⟩, by rw [k1.length, k2.length]; exact hk.1, dic_rows k2 k1 hk.2, o⟩
      · split at o
        · rename_i hk
          obtain ⟨p, us, rfl, e1, k1⟩ := ba
          obtain ⟨q, vs, rfl, e2, k2⟩ := bb
          cases rx
          cases ry
          exact (dic_eqP (by omega) I sF e1 e2 k1 k2 hk.1 hk.2).1 o
        · exact o.elim
    · split at o
      · exact o.elim
      · rename_i hl
        exact (lens_ne hu I ba bb rx ry hl).1 o
    · exact o.elim
theorem ne_ok (hu : X.A.units + 64 < cLine) : OpR X (compareOp .NotEq) (rC2 (gx X) fun a b => notR (eqR a b)) := by
  intro pins s σ H x y v u Q I rx ry h
  obtain ⟨F, a, b, sF, ba, bb, o⟩ := h
  have o := not_out o
  unfold eqR at o
  split at o
  · rename_i hp
    have hp : D.pl NEST a = true ∧ D.pl NEST b = true := by simpa using hp
    obtain ⟨as, r1⟩ := Dp.reads I _ x v (dp_bor sF hp.1 ba) rx
    obtain ⟨bs, r2⟩ := Dp.reads I _ y u (dp_bor sF hp.2 bb) ry
    have p1 := plain_toP _ _ hp.1
    have p2 := plain_toP _ _ hp.2
    have hn : NEST = 20 := rfl
    exact SeqAt.ne_plain r1 r2 p1.1 p2.1 (by omega) ⟨.bl _, H, I, rfl, o⟩
  · unfold dicR at o
    split at o
    · split at o
      · rename_i hk
        obtain ⟨p, us, rfl, e1, k1⟩ := ba
        obtain ⟨q, vs, rfl, e2, k2⟩ := bb
        exact dic_neR (by omega) pins s σ H _ _ v u Q I rx ry ⟨p, q, us, vs, ⟨rfl, rfl⟩, ⟨e1, e2⟩, by rw [k1.length, k2.length]; exact hk.1, dic_rows k2 k1 hk.2, o⟩
      · split at o
        · rename_i hk
          obtain ⟨p, us, rfl, e1, k1⟩ := ba
          obtain ⟨q, vs, rfl, e2, k2⟩ := bb
          cases rx
          cases ry
          exact (dic_eqP (by omega) I sF e1 e2 k1 k2 hk.1 hk.2).2 o
        · exact o.elim
    · split at o
      · exact o.elim
      · rename_i hl
        exact (lens_ne hu I ba bb rx ry hl).2 o
    · exact o.elim
theorem ord_ok {op : CmpOp} {f : Int → Int → Bool} (h : OpR X (compareOp op) (rI0 fun i j => .bl (f i j))) : OpR X (compareOp op) (rC2 (gx X) (ordR f)) := by
  refine OpR_imp h fun x y H Q q => ?_
  obtain ⟨F, a, b, sF, ba, bb, o⟩ := q
  unfold ordR at o
  split at o
  · cases ba; cases bb
    exact ⟨_, _, rfl, rfl, o⟩
  · exact o.elim
theorem non_rep {G : Gx} {F H : Hp} {d : D} {x : V} (h : BRep G F H d x) : (isR d .non = .ok true ∧ x = .non) ∨ (isR d .non = .ok false ∧ x ≠ .non) := by
  cases d with
  | non => exact .inl ⟨rfl, h⟩
  | bl b => cases h; exact .inr ⟨rfl, fun e => by cases e⟩
  | int b => cases h; exact .inr ⟨rfl, fun e => by cases e⟩
  | str b => cases h; exact .inr ⟨rfl, fun e => by cases e⟩
  | tup b => obtain ⟨a, vs, e, _⟩ := h; subst e; exact .inr ⟨rfl, fun e => by cases e⟩
  | lst b => obtain ⟨a, vs, e, _⟩ := h; subst e; exact .inr ⟨rfl, fun e => by cases e⟩
  | dic b => obtain ⟨a, vs, e, _⟩ := h; subst e; exact .inr ⟨rfl, fun e => by cases e⟩
    | exc b => obtain ⟨a, C, e, _⟩ := h; exact .inr ⟨rfl, by rw [e]; exact fun z => nomatch z⟩
  | fn b => obtain ⟨a, e, _⟩ := h; subst e; exact .inr ⟨rfl, fun e => by cases e⟩
theorem is_ok : OpR X (compareOp .Is) (rC2 (gx X) isR) := by
  intro pins s σ H x y v u Q I rx ry h
  obtain ⟨F, a, b, sF, ba, bb, o⟩ := h
  cases b with
  | non =>
    refine op_isN pins s σ H x y v u Q I rx ry ⟨bb, ?_⟩
    rcases non_rep ba with ⟨e, ex⟩ | ⟨e, ex⟩
    · rw [e] at o; rw [decide_eq_true ex]; exact o
    · rw [e] at o; rw [decide_eq_false ex]; exact o
  | bl k =>
    cases a with
    | bl j =>
      cases ba; cases bb
      refine op_isBl pins s σ H _ _ v u Q I rx ry ⟨j, k, rfl, rfl, ?_⟩
      have e : (k == j) = decide (j = k) := by cases j <;> cases k <;> rfl
      rw [← e]
      exact o
    | _ => exact o.elim
  | _ => exact o.elim
theorem isnot_ok : OpR X (compareOp .IsNot) (rC2 (gx X) fun a b => notR (isR a b)) := by
  intro pins s σ H x y v u Q I rx ry h
  obtain ⟨F, a, b, sF, ba, bb, o⟩ := h
  have o := not_out o
  cases b with
  | non =>
    refine op_notN pins s σ H x y v u Q I rx ry ⟨bb, ?_⟩
    rcases non_rep ba with ⟨e, ex⟩ | ⟨e, ex⟩
    · rw [e] at o; rw [decide_eq_true ex]; exact o
    · rw [e] at o; rw [decide_eq_false ex]; exact o
  | bl k =>
    cases a with
    | bl j =>
      cases ba; cases bb
      refine op_notBl pins s σ H _ _ v u Q I rx ry ⟨j, k, rfl, rfl, ?_⟩
      have e : (k == j) = decide (j = k) := by cases j <;> cases k <;> rfl
      rw [← e]
      exact o
    | _ => exact o.elim
  | _ => exact o.elim
theorem sign_of {y : Str} (h : y.length = 1) : y = ⟨#[y.cps.getD 0 0]⟩ := by
  obtain ⟨c⟩ := y
  have h : c.size = 1 := h
  obtain ⟨l⟩ := c
  match l, h with
  | [a], _ => rfl
theorem mem_ok (hu : X.A.units + 64 < cLine) (neg : Bool) : OpR X (compareOp (if neg then .NotIn else .In)) (rC2 (gx X) fun a b => (memR a b).map fun k => if neg then !k else k) := by
  intro pins s σ H x y v u Q I rx ry h
  obtain ⟨F, a, b, sF, ba, bb, o⟩ := h
  have o := o.map
  have hn : NEST = 20 := rfl
  cases b with
  | lst ds =>
    have o : Out (inR a ds) (fun k => Q (.bl (if neg then !k else k)) H) (fun _ => False) := o
    unfold inR at o
    split at o
    · rename_i hp
      have hp : D.pl NEST a = true ∧ D.pls NEST ds = true := by simpa using hp
      have q1 := plain_toP _ _ hp.1
      have q2 := plain_toPs _ _ hp.2
      obtain ⟨as, r1⟩ := Dp.reads I _ x v (dp_bor sF hp.1 ba) rx
      obtain ⟨bs, r2⟩ := Dp.reads I _ y u (dp_bor (n := NEST + 1) sF (by simpa [D.pl] using hp.2) bb) ry
      have e : (D.toPs ds).any (fun y => PyData.eqv y a.toP) = ds.any fun y => eqb y a := toPs_any _ _
      cases neg with
      | false => exact SeqAt.in_list_data r2 r1 q2.1 q1.1 (by omega) (by rw [e]; exact ⟨.bl _, H, I, rfl, o⟩)
      | true => exact SeqAt.notIn_list_data r2 r1 q2.1 q1.1 (by omega) (by rw [e]; exact ⟨.bl _, H, I, rfl, o⟩)
    · exact o.elim
  | tup ds =>
    have o : Out (inR a ds) (fun k => Q (.bl (if neg then !k else k)) H) (fun _ => False) := o
    unfold inR at o
    split at o
    · rename_i hp
      have hp : D.pl NEST a = true ∧ D.pls NEST ds = true := by simpa using hp
      have q1 := plain_toP _ _ hp.1
      have q2 := plain_toPs _ _ hp.2
      obtain ⟨as, r1⟩ := Dp.reads I _ x v (dp_bor sF hp.1 ba) rx
      obtain ⟨bs, r2⟩ := Dp.reads I _ y u (dp_bor (n := NEST + 1) sF (by simpa [D.pl] using hp.2) bb) ry
      have e : (D.toPs ds).any (fun y => PyData.eqv y a.toP) = ds.any fun y => eqb y a := toPs_any _ _
      cases neg with
      | false => exact SeqAt.in_tuple_data r2 r1 q2.1 q1.1 (by omega) (by rw [e]; exact ⟨.bl _, H, I, rfl, o⟩)
      | true => exact SeqAt.notIn_tuple_data r2 r1 q2.1 q1.1 (by omega) (by rw [e]; exact ⟨.bl _, H, I, rfl, o⟩)
    · exact o.elim
  | str z =>
    cases a with
    | str y =>
      unfold memR at o
      dsimp only at o
      split at o
      · rename_i h1
        cases ba; cases bb
        have e := sign_of h1
        cases neg with
        | false => exact op_in_sign pins s σ H _ _ v u Q I rx ry ⟨_, z, congrArg V.str e, rfl, o⟩
        | true => exact op_notIn_sign pins s σ H _ _ v u Q I rx ry ⟨_, z, congrArg V.str e, rfl, o⟩
      · exact o.elim
    | _ => exact o.elim
  | dic kvs =>
    unfold memR at o
    dsimp only at o
    split at o
    · rename_i k ek
      obtain ⟨p, us, e, h1, h2⟩ := bb
      subst e
      cases ry
      have ex : x = kV k := by
        have : Rep (gx X) F a x := by
          cases a <;> simp [key?] at ek
          · exact ba
          · exact ba
        exact key_rep ek this
      subst ex
      have g : DGet H p (kV k) (valV us k) := DGet_rd h1
      have ev : (valD kvs k).isSome = (valV us k).isSome := by
        rcases valK_rep (k := k) h2 with ⟨e1, e2⟩ | ⟨d, w', e1, e2, _⟩ <;> rw [e1, e2] <;> rfl
      rw [ev] at o
      cases neg with
      | false => exact d_in (by omega) I g rx fun s' I' => ⟨.bl _, H, I', rfl, o⟩
      | true => exact d_notIn (by omega) I g rx fun s' I' => ⟨.bl _, H, I', rfl, o⟩
    · exact o.elim
  | _ => exact o.elim
theorem map_id_R {r : R Bool} : r.map (fun k => k) = r := by cases r <;> rfl
theorem cmp_ok (hu : X.A.units + 64 < cLine) (op : CmpOp) : OpR X (compareOp op) (rC2 (gx X) (cmpEv op)) := by
  cases op
  case Eq => exact eq_ok hu
  case NotEq => exact ne_ok hu
  case Lt => exact ord_ok op_lt
  case LtE => exact ord_ok op_le
  case Gt => exact ord_ok op_gt
  case GtE => exact ord_ok op_ge
  case Is => exact is_ok
  case IsNot => exact isnot_ok
  case In =>
    have h := mem_ok (X := X) hu false
    have e : (fun a b => (memR a b).map fun k => if false = true then !k else k) = cmpEv .In := by
      funext a b
      exact map_id_R
    rw [e] at h
    exact h
  case NotIn => exact mem_ok (X := X) hu true
end
end G81
end
section
set_option Elab.async false
set_option linter.all false
set_option maxHeartbeats 4000000
namespace G81
open PySem PySem.Spec L2
section
variable {X : Cx} {G : Gx} {F F' H H' : Hp} {Q : VK}
theorem atI_rep {ds : List D} {vs : List V} {i : Int} {d : D} (r : Reps G F ds vs) (h : atI ds i = some d) : ∃ v, atI vs i = some v ∧ Rep G F d v := by
  unfold atI at h ⊢
  rw [r.length]
  cases e : ixN ds.length i with
  | none => rw [e] at h; cases h
  | some j =>
    rw [e] at h
    exact r.get h
theorem ix_ok (hu : X.A.units + 64 < cLine) : IxR X (rD2 (gx X) fun a i => (ixEv a i).map .d) := by
  intro value slice pins s σ H x y v u Q I rx ry h hs
  obtain ⟨F, a, b, sF, ba, bb, o⟩ := h
  have o := Out.map o
  unfold ixEv at o
  split at o
  · obtain ⟨d, e, o⟩ := o.of
    obtain ⟨p, vs, rfl, hp, r⟩ := ba
    cases bb
    obtain ⟨w, e1, e2⟩ := atI_rep r e
    exact ix_list value slice pins s σ H _ _ v u Q I rx ry ⟨p, vs, _, w, rfl, rfl, .inl hp, e1, okW.d o sF e2⟩ hs
  · obtain ⟨d, e, o⟩ := o.of
    obtain ⟨p, vs, rfl, hp, r⟩ := ba
    cases bb
    obtain ⟨w, e1, e2⟩ := atI_rep r e
    exact ix_tup value slice pins s σ H _ _ v u Q I rx ry ⟨p, vs, _, w, rfl, rfl, .inl (rd_mono sF hp), e1, okW.d o sF e2⟩ hs
  · split at o
    · rename_i hz
      obtain ⟨c, e, o⟩ := (Out.map o).of
      cases ba; cases bb
      exact ix_str value slice pins s σ H _ _ v u Q I rx ry ⟨_, _, c, rfl, rfl, sizes hz, e, okW.scal o sF fun _ => rfl⟩ hs
    · exact o.elim
  · obtain ⟨k, ek, o⟩ := (Out.bind o).of
    obtain ⟨d, ed, o⟩ := o.of
    obtain ⟨p, us, rfl, hp, r⟩ := ba
    cases rx
    have ey : y = kV k := by
      have : Rep (gx X) F b y := by
        cases b <;> simp [key?] at ek
        · exact bb
        · exact bb
      exact key_rep ek this
    subst ey
    rcases valK_rep (k := k) r with ⟨e1, _⟩ | ⟨d', w, e1, e2, e3⟩
    · rw [e1] at ed; cases ed
    · rw [e1] at ed; cases ed
      have g : DGet H p (kV k) (some w) := by rw [← e2]; exact DGet_rd hp
      exact PyProof.Rows.tail_any (dict_typeIs I g) PySem.F.slot_dict_getitem.lookup (d_getItem (by omega) I g ry fun w' s' I' rw' => ⟨w, H, I', rw', okW.d o sF e3⟩) hs
  · exact o.elim
theorem cut_rep {ds : List D} {vs : List V} (r : Reps G F ds vs) (lo hi : Option Int) : Reps G F (cutD ds lo hi) (cutV vs lo hi) := by
  unfold cutD cutV
  rw [r.length]
  exact Reps.take _ (Reps.drop _ r)
theorem cut_whole {ds : List D} {lo hi : Option Int} (h : HT.sIx ds.length 0 lo = 0 ∧ HT.sIx ds.length ds.length hi = ds.length) : cutD ds lo hi = ds := by
  unfold cutD
  rw [h.1, h.2, List.drop_zero, Nat.sub_zero, List.take_length]
theorem sl_ok : SlR X (fun x lo hi H Q => ∃ F a, Same F H ∧ BRep (gx X) F H a x ∧ ans (gx X) F H Q (slEv a lo hi)) := by
  intro pins s σ H x v vl vu lo hi sl Q I rx hs pl pu h
  obtain ⟨F, a, sF, ba, o⟩ := h
  unfold slEv at o
  split at o
  · obtain ⟨p, vs, rfl, hp, r⟩ := ba
    exact sl_list pins s σ H _ v vl vu lo hi sl Q I rx hs pl pu ⟨p, vs, rfl, .inl hp, fun q nq => okW.fl o sF (cut_rep r lo hi) nq⟩
  · obtain ⟨p, vs, rfl, hp, r⟩ := ba
    refine sl_tupA pins s σ H _ v vl vu lo hi sl Q I rx hs pl pu ⟨p, vs, rfl, .inl (rd_mono sF hp), fun w => ?_, fun _ q nq => okW.tup o sF (cut_rep r lo hi) nq⟩
    rw [r.length] at w
    rw [cut_whole w] at o
    exact okW.d o sF ⟨p, vs, rfl, hp, r⟩
  · split at o
    · rename_i hz
      cases ba
      exact sl_str pins s σ H _ v vl vu lo hi sl Q I rx hs pl pu ⟨_, rfl, sizes hz, okW.scal o sF fun _ => rfl⟩
    · exact o.elim
  · exact o.elim

/-- from the heap B on, J yields ds -/
def JOk (G : Gx) (B F1 : Hp) (J : L2.It) (ds : List D) : Prop := ∀ F H, Same F1 F → Same F H → Same B H →
  (∀ (i : Nat) (d : D), ds[i]? = some d → J.go i H ∧ ∀ x H', J.yld i H x H' → ∃ F', Ext F H F' H' ∧ Rep G F' d x) ∧ J.stop ds.length H
theorem j_list {B F1 : Hp} {a : Addr} {vs : List V} {ds : List D} (h : Rd B a (.lst vs)) (r : Reps G F1 ds vs) : JOk G B F1 (Itl G.K a) ds := fun F H s1 s2 s3 => by
  have hs : SqL G.K H a vs := .inl (rd_mono s3 h)
  refine ⟨fun i d e => ?_, ⟨vs, hs, by rw [r.length]; exact Nat.le_refl _⟩⟩
  obtain ⟨v, e1, e2⟩ := r.get e
  refine ⟨⟨vs, v, hs, e1⟩, fun x H' y => ?_⟩
  obtain ⟨rfl, y⟩ := y
  have ex := y vs hs
  rw [e1] at ex
  cases ex
  exact ⟨F, Ext.refl s2, e2.mono s1⟩
theorem j_tup {B F1 : Hp} {a : Addr} {vs : List V} {ds : List D} (h : Rd B a (.tup vs)) (r : Reps G F1 ds vs) : JOk G B F1 (Itt G.K a) ds := fun F H s1 s2 s3 => by
  have hs : SqT G.K H a vs := .inl (rd_mono s3 h)
  refine ⟨fun i d e => ?_, ⟨vs, hs, by rw [r.length]; exact Nat.le_refl _⟩⟩
  obtain ⟨v, e1, e2⟩ := r.get e
  refine ⟨⟨vs, v, hs, e1⟩, fun x H' y => ?_⟩
  obtain ⟨rfl, y⟩ := y
  have ex := y vs hs
  rw [e1] at ex
  cases ex
  exact ⟨F, Ext.refl s2, e2.mono s1⟩
theorem j_str {B F1 : Hp} (x : Str) : JOk G B F1 (Its x) (x.cps.toList.map fun c => .str (sgn c)) := fun F H s1 s2 s3 => by
  refine ⟨fun i d e => ?_, by show x.cps.size ≤ _; simp⟩
  rw [List.getElem?_map] at e
  cases q : x.cps.toList[i]? with
  | none => rw [q] at e; cases e
  | some c =>
    rw [q] at e
    cases e
    have hi : i < x.cps.size := by
      have := (List.getElem?_eq_some_iff.mp q).1
      simpa using this
    refine ⟨hi, fun v H' y => ?_⟩
    obtain ⟨rfl, c', ec, ev⟩ := y
    have : c' = c := by
      rw [Array.getElem?_toList] at q
      rw [q] at ec
      exact (Option.some.inj ec).symm
    subst this
    exact ⟨F, Ext.refl s2, ev⟩
theorem intsTo_len : ∀ (i : Int) (n : Nat), (intsTo i n).length = n
  | _, 0 => rfl
  | i, n + 1 => by rw [intsTo, List.length_cons, intsTo_len]
theorem intsTo_at : ∀ (lo : Int) (n i : Nat) (d : D), (intsTo lo n)[i]? = some d → i < n ∧ d = .int (lo + i)
  | _, 0, _, _, h => by simp [intsTo] at h
  | lo, n + 1, 0, d, h => by
    have e : D.int lo = d := Option.some.inj h
    exact ⟨Nat.zero_lt_succ _, by rw [← e]; simp⟩
  | lo, n + 1, i + 1, d, h => by
    obtain ⟨h1, h2⟩ := intsTo_at (lo + 1) n i d h
    refine ⟨by omega, ?_⟩
    rw [h2]
    congr 1
    omega
theorem j_rng {B F1 : Hp} (lo : Int) (n : Nat) : JOk G B F1 (Itr lo n) (intsTo lo n) := fun F H s1 s2 s3 => by
  refine ⟨fun i d e => ?_, by show n ≤ _; rw [intsTo_len]; exact Nat.le_refl _⟩
  obtain ⟨hi, rfl⟩ := intsTo_at lo n i d e
  refine ⟨hi, fun x H' y => ?_⟩
  obtain ⟨rfl, rfl⟩ := y
  exact ⟨F, Ext.refl s2, rfl⟩
theorem zipD_at : ∀ {xs ys : List D} {i : Nat} {d : D}, (zipD xs ys)[i]? = some d → ∃ x y, xs[i]? = some x ∧ ys[i]? = some y ∧ d = .tup [x, y]
  | [], _, _, _, h => by simp [zipD] at h
  | _ :: _, [], _, _, h => by simp [zipD] at h
  | x :: xs, y :: ys, 0, d, h => by
    have e : D.tup [x, y] = d := Option.some.inj h
    exact ⟨x, y, rfl, rfl, e.symm⟩
  | x :: xs, y :: ys, i + 1, d, h => zipD_at (xs := xs) (ys := ys) (i := i) h
theorem zipD_len : ∀ (xs ys : List D), (zipD xs ys).length = min xs.length ys.length
  | [], _ => by simp [zipD]
  | _ :: _, [] => by simp [zipD]
  | x :: xs, y :: ys => by
    rw [zipD, List.length_cons, zipD_len xs ys, List.length_cons, List.length_cons]
    omega
theorem lay_pair {F1 : Hp} {T : Addr} {x y : V} {a b : D} (s1 : Same F1 F) (s2 : Same F H) (nT : H T = none) (ra : Rep G F1 a x) (rb : Rep G F1 b y) : ∃ F', Ext F H F' (upd H T (.tup [x, y])) ∧ Rep G F' (.tup [a, b]) (.ref T) := by
  have E := Ext.lay (o := .tup [x, y]) s2 nT
  exact ⟨_, E, T, [x, y], rfl, .inl upd_same, x, [y], rfl, ra.mono (s1.trans E.ff), y, [], rfl, rb.mono (s1.trans E.ff), rfl⟩
theorem j_zip {B F1 : Hp} {a b : Addr} {vs ws : List V} {ds es : List D} (h : Rd B a (.lst vs)) (r : Reps G F1 ds vs) (h' : Rd B b (.lst ws)) (r' : Reps G F1 es ws) : JOk G B F1 (Itz G.K a b) (zipD ds es) := fun F H s1 s2 s3 => by
  have hs : SqL G.K H a vs := .inl (rd_mono s3 h)
  have hs' : SqL G.K H b ws := .inl (rd_mono s3 h')
  refine ⟨fun i d e => ?_, ⟨vs, ws, hs, hs', by rw [r.length, r'.length, zipD_len]; omega⟩⟩
  obtain ⟨x, y, ex, ey, rfl⟩ := zipD_at e
  obtain ⟨v, e1, e2⟩ := r.get ex
  obtain ⟨w, f1, f2⟩ := r'.get ey
  refine ⟨⟨vs, ws, v, w, hs, hs', e1, f1⟩, fun z H' q => ?_⟩
  obtain ⟨T, p1, p2, rfl, nT, rfl, q1, q2⟩ := q
  have e3 := q1 vs hs
  have f3 := q2 ws hs'
  rw [e1] at e3
  rw [f1] at f3
  cases e3; cases f3
  exact lay_pair s1 s2 nT e2 f2
theorem j_zipT {B F1 : Hp} {a b : Addr} {vs ws : List V} {ds es : List D} (h : Rd B a (.tup vs)) (r : Reps G F1 ds vs) (h' : Rd B b (.tup ws)) (r' : Reps G F1 es ws) : JOk G B F1 (RZ.ItzT G.K a b) (zipD ds es) := fun F H s1 s2 s3 => by
  have hs : SqT G.K H a vs := .inl (rd_mono s3 h)
  have hs' : SqT G.K H b ws := .inl (rd_mono s3 h')
  refine ⟨fun i d e => ?_, ⟨vs, ws, hs, hs', by rw [r.length, r'.length, zipD_len]; omega⟩⟩
  obtain ⟨x, y, ex, ey, rfl⟩ := zipD_at e
  obtain ⟨v, e1, e2⟩ := r.get ex
  obtain ⟨w, f1, f2⟩ := r'.get ey
  refine ⟨⟨vs, ws, v, w, hs, hs', e1, f1⟩, fun z H' q => ?_⟩
  obtain ⟨T, p1, p2, rfl, nT, rfl, q1, q2⟩ := q
  have e3 := q1 vs hs
  have f3 := q2 ws hs'
  rw [e1] at e3
  rw [f1] at f3
  cases e3; cases f3
  exact lay_pair s1 s2 nT e2 f2
theorem enumD_at : ∀ {n : Nat} {xs : List D} {i : Nat} {d : D}, (enumD n xs)[i]? = some d → ∃ x, xs[i]? = some x ∧ d = .tup [.int ((n + i : Nat) : Int), x]
  | _, [], _, _, h => by simp [enumD] at h
  | n, x :: xs, 0, d, h => by
    have e : D.tup [.int n, x] = d := Option.some.inj h
    exact ⟨x, rfl, e.symm⟩
  | n, x :: xs, i + 1, d, h => by
    obtain ⟨y, h1, h2⟩ := enumD_at (n := n + 1) (xs := xs) (i := i) h
    refine ⟨y, h1, ?_⟩
    rw [h2, Nat.add_assoc, Nat.add_comm 1 i]
theorem enumD_len : ∀ (n : Nat) (xs : List D), (enumD n xs).length = xs.length
  | _, [] => rfl
  | n, x :: xs => by rw [enumD, List.length_cons, enumD_len, List.length_cons]
theorem j_enum {B F1 : Hp} {a : Addr} {vs : List V} {ds : List D} (h : Rd B a (.lst vs)) (r : Reps G F1 ds vs) : JOk G B F1 (Ite G.K a) (enumD 0 ds) := fun F H s1 s2 s3 => by
  have hs : SqL G.K H a vs := .inl (rd_mono s3 h)
  refine ⟨fun i d e => ?_, ⟨vs, hs, by rw [r.length, enumD_len]; exact Nat.le_refl _⟩⟩
  obtain ⟨x, ex, rfl⟩ := enumD_at e
  obtain ⟨v, e1, e2⟩ := r.get ex
  refine ⟨⟨vs, v, hs, e1⟩, fun z H' q => ?_⟩
  obtain ⟨T, p1, rfl, nT, rfl, q1⟩ := q
  have e3 := q1 vs hs
  rw [e1] at e3
  cases e3
  rw [Nat.zero_add]
  exact lay_pair s1 s2 nT rfl e2
end
end G81
end
section
set_option Elab.async false
set_option linter.all false
set_option maxHeartbeats 4000000
set_option maxRecDepth 100000
namespace G81
open PySem PySem.Spec L2
open AutoSeq1 (wpAny_loadPart')
section
variable {prog : Program} {w : World} {A : Around} {E : Value → Shared → Prop} {s : Shared}
theorem nextOf_tup_item {it l : Addr} {i : Nat} {items : Array Value} {x : Value} {Q : Value → Shared → Prop} (hit : s.heap.IsTupleIter it l i) (hl : s.heap.IsTuple l items) (hx : items[i]? = some x)
    (hQ : ∀ h', h'.IsTupleIter it l (i + 1) → Heap.SameBut it s.heap h' → Q x { s with heap := h' }) : wpAny (model prog w) A (Builtin.SmallTypes.nextOf (.ref it)) Q E s := by
  obtain ⟨o, ho, hc, hd⟩ := id hit
  obtain ⟨ol, hol, _, nl, hdl⟩ := hl
  unfold Builtin.SmallTypes.nextOf
  refine wpAny_bind (wpAny_callSpecial?_slot (name := Str.ofString "__next__") hit.typeIs F.slot_tuple_iterator_next
    (wpAny_call_entry F.slot_tuple_iterator_next hit.typeIs F.entry_tuple_iterator_next ?_ (F.args_tuple_iterator_next_1 _)))
  show wpAny _ _ (field (.ref it) 0 >>= _) _ _ s
  refine wpAny_bind (wpAny_field ho hd (x := .ref l) rfl ?_)
  show wpAny _ _ (if (Value.ref l == Value.none) = true then _ else _) _ _ s
  rw [if_neg (show ¬ ((Value.ref l == Value.none) = true) from Bool.false_ne_true)]
  show wpAny _ _ (field (.ref it) 1 >>= _) _ _ s
  refine wpAny_bind (wpAny_field ho hd (x := .int i 0) rfl ?_)
  show wpAny _ _ (seqItems? (.ref l) >>= _) _ _ s
  refine wpAny_bind (wpAny_seqItems hol hdl ?_)
  simp only [Int.toNat_natCast, hx]
  refine wpAny_bind (wpAny_setField ho hd (by simp) (wpAny_pure ⟨x, rfl, wpAny_pure (hQ _ ?_ (Heap.SameBut.update ..))⟩))
  exact ⟨_, Heap.get?_update_self _ ho (Obj.isFreed_of_fields (Obj.data_mapFields hd _)), (Obj.cls_mapFields ..).trans hc, by
    rw [Obj.data_mapFields hd]; simp [rawInt]⟩
theorem nextOf_tup_end {it l : Addr} {i : Nat} {items : Array Value} {Q : Value → Shared → Prop} (hh : A.handled = none) (hit : s.heap.IsTupleIter it l i) (hl : s.heap.IsTuple l items) (hx : items[i]? = none)
    (hE : ∀ h' e, Heap.ExtBut it s.heap h' → (∃ o, h'.get? e = some o ∧ o.cls = .type "StopIteration") → E (.ref e) { s with heap := h' }) : wpAny (model prog w) A (Builtin.SmallTypes.nextOf (.ref it)) Q E s := by
  obtain ⟨o, ho, hc, hd⟩ := id hit
  obtain ⟨ol, hol, _, nl, hdl⟩ := hl
  unfold Builtin.SmallTypes.nextOf
  refine wpAny_bind (wpAny_callSpecial?_slot (name := Str.ofString "__next__") hit.typeIs F.slot_tuple_iterator_next
    (wpAny_call_entry F.slot_tuple_iterator_next hit.typeIs F.entry_tuple_iterator_next ?_ (F.args_tuple_iterator_next_1 _)))
  show wpAny _ _ (field (.ref it) 0 >>= _) _ _ s
  refine wpAny_bind (wpAny_field ho hd (x := .ref l) rfl ?_)
  show wpAny _ _ (if (Value.ref l == Value.none) = true then _ else _) _ _ s
  rw [if_neg (show ¬ ((Value.ref l == Value.none) = true) from Bool.false_ne_true)]
  show wpAny _ _ (field (.ref it) 1 >>= _) _ _ s
  refine wpAny_bind (wpAny_field ho hd (x := .int i 0) rfl ?_)
  show wpAny _ _ (seqItems? (.ref l) >>= _) _ _ s
  refine wpAny_bind (wpAny_seqItems hol hdl ?_)
  simp only [Int.toNat_natCast, hx]
  refine wpAny_bind (wpAny_rule (wpAny_bind (wpAny_setField ho hd (by simp) ?_)))
  show wpAny _ _ (newExc (.type "StopIteration") [] >>= _) _ _ _
  refine wpAny_bind ?_
  simp only [newExc, newTuple]
  refine wpAny_bind (wpAny_newObj_type ?_ (by size_fits))
  refine wpAny_bind (m := firstArgMember _ _) (wpAny_of_eq (a := Value.none) (by first | rfl | (simp only [firstArgMember]; rfl)) ?_)
  refine wpAny_newObj_type ?_ (by size_fits)
  simp only [raiseNew]
  refine wpAny_bind (wpAny_handled ?_)
  first | rw [show A.in1.handled = none from hh] | rw [hh]
  refine wpAny_bind (wpAny_pure (wpAny_throw ?_))
  exact hE _ _ (((Heap.SameBut.update ..).extBut.push _).push _) ⟨_, Heap.get?_push_size _ rfl, rfl⟩
end
theorem IsTuple_at {h h' : Heap} {a : Addr} {items : Array Value} (x : h.IsTuple a items) (k : ∀ o, h.get? a = some o → h'.get? a = some o) : h'.IsTuple a items :=
  let ⟨o, ho, r⟩ := x; ⟨o, k o ho, r⟩
theorem draws_tup {prog : Program} {w : World} {A : Around} (hh : A.handled = none) (it l : Addr) (hne : l ≠ it) (items : Array Value) :
    Draws prog w A it [it, l] items.size (fun i v => items[i]? = some v) (fun i h => h.IsTupleIter it l i ∧ h.IsTuple l items) where
  live := fun _ _ st => let ⟨o, ho, _⟩ := st.1; ⟨o, ho⟩
  frame := fun _ _ _ st hk => ⟨st.1.at fun o e => hk it (by simp) o e, IsTuple_at st.2 fun o e => hk l (by simp) o e⟩
  item := fun i s Q E hi st hQ => by
    refine nextOf_tup_item st.1 st.2 (x := items[i]) (by simp [hi]) fun h' hit' hs' => ?_
    exact hQ _ h' s.toks (by simp [hi]) ⟨hit', st.2.extBut hs'.extBut hne⟩ hs'
  done := fun s Q E st hE => nextOf_tup_end hh st.1 st.2 (by simp) hE
theorem meets_enumT (l : Addr) (items : Array Value) (n : Nat) (dct : Option Addr) (sl : Array (Option Value)) :
    Meets (Builtin.«enumerate.__new__» ⟨[.type "enumerate", .ref l], []⟩) (fun _ R s => s.heap.get? l = some { cls := .type "tuple", dict := dct, data := .seq items n, slots := sl } ∧
      R (.ok (.ret (.ref (s.heap.push { cls := .type "tuple_iterator", data := .fields #[.ref l, .int 0 0] }).objs.size)))
        { s with heap := (s.heap.push { cls := .type "tuple_iterator", data := .fields #[.ref l, .int 0 0] }).push { cls := .type "enumerate", data := .fields #[.none, .bool false, .ref s.heap.objs.size, rawInt 0, .none, .none] } }) :=
  .of_wp fun prog w A R s h => by
    obtain ⟨hp, g, d, tk, os⟩ := s; obtain ⟨hl, h⟩ := h
    have hsub := sub_enumerate
    have hL : Heap.IsTuple (Shared.heap ⟨hp, g, d, tk, os⟩) l items := ⟨_, hl, rfl, n, rfl⟩
    wp_walk using wpAny_loadPart' hl
    refine wpAny_stack_any fun st => wpAny_pure ?_
    split
    · rename_i c _ _ _ _ _
      cases (c == Value.type "enumerate")
      · wp_walk using wpAny_loadPart' hl, wpAny_pyIter_tuple hL
        exact ⟨_, rfl, h⟩
      · wp_walk using wpAny_loadPart' hl, wpAny_pyIter_tuple hL
        exact ⟨_, rfl, h⟩
    · wp_walk using wpAny_loadPart' hl, wpAny_pyIter_tuple hL
      exact ⟨_, rfl, h⟩
theorem call_enum_tup {prog : Program} {w : World} {A : Around} {E : Value → Shared → Prop} {s : Shared} {l : Addr} {items : Array Value} {Q : Value → Shared → Prop} (hL : s.heap.IsTuple l items)
    (h : ∀ h', IsEnum h' (s.heap.objs.size + 1) s.heap.objs.size 0 .none → h'.IsTupleIter s.heap.objs.size l 0 → h'.objs.size = s.heap.objs.size + 2 →
      (∀ b o, s.heap.get? b = some o → h'.get? b = some o) → Q (.ref (s.heap.objs.size + 1)) { s with heap := h' }) :
    wpAny (model prog w) A (call (.type "enumerate") [.ref l]) Q E s := by
  obtain ⟨⟨c, dct, dt, sl⟩, hl, hc, n, hd⟩ := hL
  replace hc : c = .type "tuple" := hc
  replace hd : dt = .seq items n := hd
  subst hc hd
  refine callType_new F.called_enumerate (by decide) (F.typeCall_enumerate_1 _) (F.newCall_enumerate_1 _) (fun obj => F.args_object_init_2 obj _) F.entry_enumerate_new
    (meets_enumT l items n dct sl) ⟨hl, ?_⟩
  have hz : (s.heap.push { cls := .type "tuple_iterator", data := .fields #[.ref l, .int 0 0] }).objs.size = s.heap.objs.size + 1 := Heap.size_push ..
  show _ ∧ _
  rw [hz]
  have he : IsEnum ((s.heap.push { cls := .type "tuple_iterator", data := .fields #[.ref l, .int 0 0] }).push
      { cls := .type "enumerate", data := .fields #[.none, .bool false, .ref s.heap.objs.size, rawInt 0, .none, .none] }) (s.heap.objs.size + 1) s.heap.objs.size 0 .none := by
    have := Heap.get?_push_size (s.heap.push { cls := .type "tuple_iterator", data := .fields #[.ref l, .int 0 0] })
      (o := { cls := .type "enumerate", data := .fields #[.none, .bool false, .ref s.heap.objs.size, rawInt 0, .none, .none] }) rfl
    rw [hz] at this; exact this
  refine ⟨⟨_, he, rfl⟩, h _ he ⟨_, Heap.get?_push_of_some _ (Heap.get?_push_size _ rfl), rfl, rfl⟩ (by rw [Heap.size_push, hz]) fun b o x => Heap.get?_push_of_some _ (Heap.get?_push_of_some _ x)⟩
/-- the tuple at a, each item in a new pair -/
def IteT (K : PySem.W.Frag) (a : Addr) : L2.It :=
  ⟨fun i H => ∃ (xs : List V) (x : V), SqT K H a xs ∧ xs[i]? = some x, fun i H v H' => ∃ T x, v = .ref T ∧ H T = none ∧ H' = upd H T (.tup [.int (i : Nat), x]) ∧ ∀ xs, SqT K H a xs → xs[i]? = some x, fun i H => ∃ xs : List V, SqT K H a xs ∧ xs.length ≤ i⟩
theorem turn_enumT {P : Program} {w : World} {K : PySem.W.Frag} {elts : List Expr} {kk : Nat} {tpos : Pos} (a e it : Addr) (nei : e ≠ it) (nae : a ≠ e) (nai : a ≠ it) :
    Turn P w K (.Tuple elts kk tpos) (IteT K a) [e, it] e (fun i h => (∃ old, IsEnum h e it ((i : Nat) : Int) old) ∧ h.IsTupleIter it a i) where
  mem := by simp
  obj := fun i h st b hb => by
    obtain ⟨⟨old, he⟩, ⟨o, ho, hc, hd⟩⟩ := st
    have e' : b = e ∨ b = it := by simpa using hb
    rcases e' with z | z
    · rw [z]; exact ⟨_, he, fun v q => nomatch q⟩
    · rw [z]; exact ⟨o, ho, fun v q => by rw [hd] at q; cases q⟩
  keep := fun i h h' st k => let ⟨⟨old, he⟩, hi⟩ := st; ⟨⟨old, k e (by simp) _ he⟩, hi.at fun o q => k it (by simp) o q⟩
  item := by
    intro X hP hw hK hc i pins s σ H E I hf st hg
    subst hP hw hK
    obtain ⟨⟨old, he⟩, hit⟩ := st
    obtain ⟨xs, x, hq, hx⟩ := hg
    obtain ⟨its, rv, p, hz⟩ := I.tuple hq
    obtain ⟨u, hu, ru⟩ := rv.get hx
    have hel : e < s.heap.objs.size := Heap.lt_size he
    have hil : it < s.heap.objs.size := by obtain ⟨_, q, _⟩ := hit; exact Heap.lt_size q
    have pt : s.heap.IsTuple a its.toArray := p
    have hln : i < its.toArray.size := by
      have := (List.getElem?_eq_some_iff.mp hu).1
      simpa using this
    refine wpAny_pyNext_enum_itemD (draws_tup (A := X.A.in1) (by simpa using I.ok.hd hc) it a nai its.toArray) he ⟨hit, pt⟩ hln nei (by simp [nei, Ne.symm nae]) fun y h' tk hy ho hit' hT hsz hk => ?_
    have ey : y = u := by
      have : its.toArray[i]? = some u := by simpa using hu
      rw [this] at hy
      exact (Option.some.inj hy).symm
    subst ey
    refine ⟨_, rfl, wpAny_letOwnedTupleGo_enum (s := { s with heap := h', toks := tk + 1 }) ho fun h'' he' sb => ?_⟩
    have hT2 : h''.get? s.heap.objs.size = some { cls := .type "tuple", data := .seq #[.int i tk, y] } := (sb.2 _ (Nat.ne_of_gt hel)).trans hT
    have new : ObjOk X.prog X.w (upd H s.heap.objs.size (.tup [.int (i : Nat), x])) h'' s.heap.objs.size (.tup [.int (i : Nat), x]) :=
      ⟨by show 2 ≤ sizeLine; decide, [.int i tk, y], .cons ⟨_, rfl⟩ (.cons ru .nil), ⟨_, hT2, rfl, _, rfl⟩⟩
    have I1 : Inv X pins σ (upd H s.heap.objs.size (.tup [.int (i : Nat), x])) { s with heap := h'', toks := tk + 1 } :=
      I.turnedNew (ch := [e, it]) (fun b ob hb q => (sb.2 b (fun z => hb (by simp [z]))).trans (hk b ob (fun z => hb (by simp [z])) (fun z => hb (by simp [z])) q)) hf (Nat.le_refl _) new
    refine ⟨.ref s.heap.objs.size, _, I1, rfl, ⟨_, x, rfl, I.hok.fresh (Nat.le_refl _), rfl, fun ys hy => by rw [I.tuple_inj hy hq]; exact hx⟩, ⟨⟨y, ?_⟩, hit'.1.at fun o q => (sb.2 it (Ne.symm nei)).trans q⟩, fun b hb => ?_⟩
    · have e1 : ((i + 1 : Nat) : Int) = (i : Int) + 1 := by omega
      rw [e1]; exact he'
    · have hb' : b < s.heap.objs.size := by
        have e' : b = e ∨ b = it := by simpa using hb
        rcases e' with z | z
        · rw [z]; exact hel
        · rw [z]; exact hil
      rw [upd_ne (Nat.ne_of_lt hb')]
      exact (hf b hb).1
  done := by
    intro X hP hw hK hc i pins s σ H E I hf st hg
    subst hP hw hK
    obtain ⟨⟨old, he⟩, hit⟩ := st
    obtain ⟨xs, hq, hx⟩ := hg
    obtain ⟨its, rv, p, hz⟩ := I.tuple hq
    obtain ⟨f0, f1, f2, f3, f4, f5⟩ := hf it (by simp)
    have hl := rv.length
    have pt : s.heap.IsTuple a its.toArray := p
    have hT : s.TypeIs (.ref e) "enumerate" := ⟨_, he, rfl⟩
    unfold pyNext
    refine wpAny_bind (wpAny_attempt (wpAny_callSpecial?_slot (name := Str.ofString "__next__") hT F.slot_enumerate_next
      (wpAny_call_entry F.slot_enumerate_next hT F.entry_enumerate_next ?_ (F.args_enumerate_next_1 _))))
    show wpAny _ _ (field (.ref e) 2 >>= _) _ _ _
    refine wpAny_bind (wpAny_field he rfl (x := .ref it) rfl ?_)
    refine wpAny_bind (nextOf_tup_end (by simpa using I.ok.hd hc) hit pt (by simp; omega) fun h' x he' hx' => ?_)
    obtain ⟨o, ho, hc⟩ := hx'
    refine wpAny_bind (wpAny_isInstance (T := "StopIteration") (b := true) ⟨o, ho, hc⟩ isSubtype_stop ?_)
    exact wpAny_pure ⟨rfl, I.turned (t' := s.toks) (fun b o hb q => he' b o hb q) f0 f1 f3 f4 f5⟩
  self := fun A i s Q E st h => let ⟨⟨_, he⟩, _⟩ := st; wpAny_pyIter_enum he h
def iEnum2 (K : PySem.W.Frag) (ta : TA) : TI := fun σ H R => ta σ H fun vs H1 => ∃ a xs, vs = [.ref a] ∧ ((SqL K H1 a xs ∧ R (Ite K a) H1) ∨ (SqT K H1 a xs ∧ R (IteT K a) H1))
theorem pi_enum2 {X : Cx} {e : Expr} {ta : TA} {p pos tpos : Pos} {elts : List Expr} {kk : Nat} (hg : Gl X "enumerate") (hm : X.mg "enumerate" = none) (ha : PA X [e] ta) (hs : starEach [e] X.env = [(false, eval e X.env)] := by rfl) :
    PI X (.Tuple elts kk tpos) (.Call (.Name "enumerate" p) [e] [] pos) (iEnum2 X.K ta) := by
  refine ⟨fun pins s σ H R I h => ?_⟩
  refine PyProof.Rows.Call_ (ld_blt I hg hm PyProof.Rows.boot_enumerate (PyProof.Rows.callWith_type1 (thn (ha.run pos pins s σ H _ I h) fun us s1 ⟨vs, H1, I1, r1, q1⟩ => ?_) hs rfl))
  obtain ⟨a, xs, ex, hq⟩ := q1
  subst ex
  cases r1 with
  | cons r rr =>
    cases rr
    cases r
    rcases hq with ⟨hq, q⟩ | ⟨hq, q⟩
    · obtain ⟨its, rv, p', hz⟩ := I1.list hq
      refine call_enumerate_list p'.isList fun h' he hit hsz hk => wpAny_pyIter_enum he ?_
      have I2 : Inv X pins σ H1 { s1 with heap := h' } := I1.kept (t' := s1.toks) hk
      refine ⟨s1.heap.objs.size + 1, [s1.heap.objs.size + 1, s1.heap.objs.size], _, _, H1, rfl, I2, turn_enum a (s1.heap.objs.size + 1) s1.heap.objs.size, ⟨⟨.none, he⟩, hit, Nat.succ_ne_self _⟩, fun b hb => ?_, q⟩
      have e' : b = s1.heap.objs.size + 1 ∨ b = s1.heap.objs.size := by simpa using hb
      have hle : s1.heap.objs.size ≤ b := by
        rcases e' with z | z
        · rw [z]; exact Nat.le_add_right _ _
        · rw [z]; exact Nat.le_refl _
      exact I1.fpOk hle (I1.hok.fresh hle)
    · obtain ⟨its, rv, p', hz⟩ := I1.tuple hq
      have pt : s1.heap.IsTuple a its.toArray := p'
      have hla : a < s1.heap.objs.size := by obtain ⟨_, q, _⟩ := pt; exact Heap.lt_size q
      refine call_enum_tup pt fun h' he hit hsz hk => wpAny_pyIter_enum he ?_
      have I2 : Inv X pins σ H1 { s1 with heap := h' } := I1.kept (t' := s1.toks) hk
      refine ⟨s1.heap.objs.size + 1, [s1.heap.objs.size + 1, s1.heap.objs.size], _, _, H1, rfl, I2, turn_enumT a (s1.heap.objs.size + 1) s1.heap.objs.size (Nat.succ_ne_self _) (Nat.ne_of_lt (Nat.lt_succ_of_lt hla)) (Nat.ne_of_lt hla), ⟨⟨.none, he⟩, hit⟩, fun b hb => ?_, q⟩
      have e' : b = s1.heap.objs.size + 1 ∨ b = s1.heap.objs.size := by simpa using hb
      have hle : s1.heap.objs.size ≤ b := by
        rcases e' with z | z
        · rw [z]; exact Nat.le_add_right _ _
        · rw [z]; exact Nat.le_refl _
      exact I1.fpOk hle (I1.hok.fresh hle)
section
variable {G : Gx}
theorem j_enumT {B F1 : Hp} {a : Addr} {vs : List V} {ds : List D} (h : Rd B a (.tup vs)) (r : Reps G F1 ds vs) : JOk G B F1 (IteT G.K a) (enumD 0 ds) := fun F H s1 s2 s3 => by
  have hs : SqT G.K H a vs := .inl (rd_mono s3 h)
  refine ⟨fun i d e => ?_, ⟨vs, hs, by rw [r.length, enumD_len]; exact Nat.le_refl _⟩⟩
  obtain ⟨x, ex, rfl⟩ := enumD_at e
  obtain ⟨v, e1, e2⟩ := r.get ex
  refine ⟨⟨vs, v, hs, e1⟩, fun z H' q => ?_⟩
  obtain ⟨T, p1, rfl, nT, rfl, q1⟩ := q
  have e3 := q1 vs hs
  rw [e1] at e3
  cases e3
  rw [Nat.zero_add]
  exact lay_pair s1 s2 nT rfl e2
end
end G81
end
section
set_option Elab.async false
set_option linter.all false
set_option maxRecDepth 100000
set_option maxHeartbeats 1000000
namespace G81
open PySem PySem.Spec PyProof.Rows L2 RZ
/-- the heap behind zip(tuple at p, list at q), step by step -/
abbrev zm1 (g : Heap) (p : Addr) : Heap := g.push { cls := .type "tuple_iterator", data := .fields #[.ref p, .int 0 0] }
abbrev zm2 (g : Heap) (p q : Addr) : Heap := (zm1 g p).push { cls := .type "list_iterator", data := .fields #[.ref q, .int 0 0] }
abbrev zm3 (g : Heap) (p q : Addr) : Heap := (zm2 g p q).push { cls := .type "tuple", data := .seq #[.ref g.objs.size, .ref (zm1 g p).objs.size] }
abbrev zm4 (g : Heap) (p q : Addr) : Heap := (zm3 g p q).push { cls := .type "tuple", data := .seq #[.none, .none] }
abbrev zm5 (g : Heap) (p q : Addr) : Heap := (zm4 g p q).push { cls := .type "zip", data := .fields #[.none, .bool false, .bool false, .ref (zm2 g p q).objs.size, .ref (zm3 g p q).objs.size] }
theorem meets_zm (p q : Addr) (xs ys : Array Value) :
    Meets (Builtin.«zip.__new__» ⟨[.type "zip", .ref p, .ref q], []⟩) (fun _ R s => s.heap.IsTuple p xs ∧ s.heap.IsList q ys ∧ R (.ok (.ret (.ref (zm4 s.heap p q).objs.size))) { s with heap := zm5 s.heap p q }) :=
  .of_wp fun prog w A R s h => by
    obtain ⟨hp, g, d, tk, os⟩ := s; obtain ⟨t1, t2, fin⟩ := h
    have zs := sub_zip
    have e1 : Heap.IsTuple (Shared.heap ⟨hp, g, d, tk, os⟩) p xs := t1
    have e2 : Heap.IsList (Shared.heap ⟨hp.push { cls := .type "tuple_iterator", data := .fields #[.ref p, .int 0 0] }, g, d, tk, os⟩) q ys := Heap.IsList.push t2 _
    wp_walk using wpAny_pyIter_tuple e1, wpAny_pyIter_list e2
    exact ⟨_, rfl, fin⟩
theorem call_zm {prog : Program} {w : World} {A : Around} {E : Value → Shared → Prop} {s : Shared} {p q : Addr} {xs ys : Array Value} {Q : Value → Shared → Prop} (t1 : s.heap.IsTuple p xs) (t2 : s.heap.IsList q ys)
    (fin : ∀ g, IsZip g (s.heap.objs.size + 4) (s.heap.objs.size + 2) (s.heap.objs.size + 3) .none → IsPair g (s.heap.objs.size + 2) (.ref s.heap.objs.size) (.ref (s.heap.objs.size + 1)) →
      IsPair g (s.heap.objs.size + 3) .none .none → g.IsTupleIter s.heap.objs.size p 0 → g.IsListIter (s.heap.objs.size + 1) q 0 → (∀ c o, s.heap.get? c = some o → g.get? c = some o) → Q (.ref (s.heap.objs.size + 4)) { s with heap := g }) :
    wpAny (model prog w) A (call (.type "zip") [.ref p, .ref q]) Q E s := by
  refine callType_new F.called_zip (by decide) (F.typeCall_zip_2 _ _) (F.newCall_zip_2 _ _) (fun obj => F.args_object_init_3 obj _ _) F.entry_zip_new (meets_zm p q xs ys) ⟨t1, t2, ?_⟩
  have n1 : (zm1 s.heap p).objs.size = s.heap.objs.size + 1 := Heap.size_push ..
  have n2 : (zm2 s.heap p q).objs.size = s.heap.objs.size + 2 := by rw [Heap.size_push, n1]
  have n3 : (zm3 s.heap p q).objs.size = s.heap.objs.size + 3 := by rw [Heap.size_push, n2]
  have n4 : (zm4 s.heap p q).objs.size = s.heap.objs.size + 4 := by rw [Heap.size_push, n3]
  have up : ∀ {c o}, (zm4 s.heap p q).get? c = some o → (zm5 s.heap p q).get? c = some o := fun x => Heap.get?_push_of_some _ x
  have o5 : (zm5 s.heap p q).get? (zm4 s.heap p q).objs.size = some _ := Heap.get?_push_size _ rfl
  have o4 : (zm5 s.heap p q).get? (zm3 s.heap p q).objs.size = some _ := up (Heap.get?_push_size _ rfl)
  have o3 : (zm5 s.heap p q).get? (zm2 s.heap p q).objs.size = some _ := up (Heap.get?_push_of_some _ (Heap.get?_push_size _ rfl))
  have o2 : (zm5 s.heap p q).get? (zm1 s.heap p).objs.size = some _ := up (Heap.get?_push_of_some _ (Heap.get?_push_of_some _ (Heap.get?_push_size _ rfl)))
  have o1 : (zm5 s.heap p q).get? s.heap.objs.size = some _ := up (Heap.get?_push_of_some _ (Heap.get?_push_of_some _ (Heap.get?_push_of_some _ (Heap.get?_push_size _ rfl))))
  show _ ∧ _
  rw [n2, n3, n4] at o5
  rw [n1, n2] at o3
  rw [n3] at o4
  rw [n1] at o2
  rw [n4]
  exact ⟨⟨_, o5, rfl⟩, fin _ o5 o3 o4 ⟨_, o1, rfl, rfl⟩ ⟨_, o2, rfl, rfl⟩ fun c o x => up (Heap.get?_push_of_some _ (Heap.get?_push_of_some _ (Heap.get?_push_of_some _ (Heap.get?_push_of_some _ x))))⟩
/-- the tuple at a and the list at b, their items in new pairs -/
def ItzM (K : PySem.W.Frag) (a b : Addr) : L2.It :=
  ⟨fun i H => ∃ (xs ys : List V) (x y : V), (SqT K H a xs ∧ SqL K H b ys) ∧ xs[i]? = some x ∧ ys[i]? = some y,
    fun i H v H' => ∃ T x y, (v = .ref T ∧ H T = none ∧ H' = upd H T (.tup [x, y])) ∧ (∀ xs, SqT K H a xs → xs[i]? = some x) ∧ ∀ ys, SqL K H b ys → ys[i]? = some y,
    fun i H => ∃ xs ys : List V, (SqT K H a xs ∧ SqL K H b ys) ∧ (xs.length = i ∧ i ≤ ys.length ∨ ys.length = i ∧ i ≤ xs.length)⟩
theorem mem5 {z TI TO i1 i2 c : Addr} (h : c ∈ [z, TI, TO, i1, i2]) : c = z ∨ c = TI ∨ c = TO ∨ c = i1 ∨ c = i2 := by simpa using h
theorem zip_sep {z TI TO i1 i2 a b : Addr} (D : ZipApart z TI TO i1 i2 a b) : ZipSep2 z TI TO i1 i2 [i1, a] [i2, b] where
  TIz := D.TIz
  TOz := D.TOz
  TITO := D.TITO
  TIi1 := D.TIi1
  mem1 := by simp
  zf1 := by simp [D.i1z.symm, D.l1z.symm]
  Tf1 := by simp [D.TOi1, D.l1TO.symm]
  TIi2 := D.TIi2
  mem2 := by simp
  zf2 := by simp [D.i2z.symm, D.l2z.symm]
  Tf2 := by simp [D.TOi2, D.l2TO.symm]
  sep1_2 := by simp [D.i12, D.l2i1.symm]
  sep2_1 := by simp [D.i12.symm, D.l1i2.symm]
theorem turn_zm {P : Program} {w : World} {K : PySem.W.Frag} {elts : List Expr} {kk : Nat} {tpos : Pos} {a b z TI TO i1 i2 : Addr} (D : ZipApart z TI TO i1 i2 a b) :
    Turn P w K (.Tuple elts kk tpos) (ItzM K a b) [z, TI, TO, i1, i2] z (fun i g => (IsZip g z TI TO .none ∧ IsPair g TI (.ref i1) (.ref i2) ∧ ∃ x y, IsPair g TO x y) ∧ g.IsTupleIter i1 a i ∧ g.IsListIter i2 b i) where
  mem := List.mem_cons_self
  obj := fun i g st c hc => by
    obtain ⟨⟨hz, hI, x, y, hO⟩, ⟨o1, e1, _, d1⟩, o2, e2, _, d2⟩ := st
    rcases mem5 hc with rfl | rfl | rfl | rfl | rfl
    · exact ⟨_, hz, fun v w => nomatch w⟩
    · exact ⟨_, hI, fun v w => nomatch w⟩
    · exact ⟨_, hO, fun v w => nomatch w⟩
    · exact ⟨o1, e1, fun v w => by rw [d1] at w; cases w⟩
    · exact ⟨o2, e2, fun v w => by rw [d2] at w; cases w⟩
  keep := fun i g g' st k => by
    obtain ⟨⟨hz, hI, x, y, hO⟩, u1, u2⟩ := st
    exact ⟨⟨k z (by simp) _ hz, k TI (by simp) _ hI, x, y, k TO (by simp) _ hO⟩, u1.at fun o w => k i1 (by simp) o w, u2.at fun o w => k i2 (by simp) o w⟩
  item := by
    intro X hP hw hK hc i pins s σ H E I hf st hg
    subst hP hw hK
    obtain ⟨⟨hz, hI, x0, y0, hO⟩, u1, u2⟩ := st
    obtain ⟨xs, ys, x, y, ⟨qx, qy⟩, hx, hy⟩ := hg
    obtain ⟨l1, rv1, p1, _⟩ := I.tuple qx
    obtain ⟨l2, rv2, p2, _⟩ := I.list qy
    obtain ⟨u, hu, ru⟩ := rv1.get hx
    obtain ⟨v, hv, rv⟩ := rv2.get hy
    have zlt : z < s.heap.objs.size := Heap.lt_size hz
    have pt : s.heap.IsTuple a l1.toArray := p1
    have b1 : i < l1.toArray.size := by simpa using (List.getElem?_eq_some_iff.mp hu).1
    have b2 : i < l2.toArray.size := by simpa using (List.getElem?_eq_some_iff.mp hv).1
    refine wpAny_pyNext_zipD2_item (zip_sep D) (draws_tup (A := X.A.in1) (by simpa using I.ok.hd hc) i1 a D.l1i1 l1.toArray) (Draws.list (A := X.A.in1) (by simpa using I.ok.hd hc) i2 b D.l2i2 l2.toArray) hz hI hO ⟨u1, pt⟩ ⟨u2, p2.isList⟩ b1 b2 fun w1 w2 g tk h1 h2 z' O' r1 r2 hT hsz hk => ?_
    have e1 : w1 = u := by
      have : l1.toArray[i]? = some u := by simpa using hu
      rw [this] at h1
      exact (Option.some.inj h1).symm
    have e2 : w2 = v := by
      have : l2.toArray[i]? = some v := by simpa using hv
      rw [this] at h2
      exact (Option.some.inj h2).symm
    subst e1 e2
    refine ⟨_, rfl, wpAny_letOwnedTupleGo_zip (s := { s with heap := g, toks := tk }) z' fun g' z2 sb => ?_⟩
    have hT2 : g'.get? s.heap.objs.size = some { cls := .type "tuple", data := .seq #[w1, w2] } := (sb.2 _ (Nat.ne_of_gt zlt)).trans hT
    have new : ObjOk X.prog X.w (upd H s.heap.objs.size (.tup [x, y])) g' s.heap.objs.size (.tup [x, y]) := ⟨by show 2 ≤ sizeLine; decide, [w1, w2], .cons ru (.cons rv .nil), ⟨_, hT2, rfl, _, rfl⟩⟩
    have hk2 : ∀ c o, c ∉ [z, TI, TO, i1, i2] → s.heap.get? c = some o → g'.get? c = some o := fun c o nb w => (sb.2 c (fun e => nb (by simp [e]))).trans (hk c o (fun e => nb (by simp [e])) (fun e => nb (by simp [e])) (fun e => nb (by simp [e])) (fun e => nb (by simp [e])) w)
    have I1 : Inv X pins σ (upd H s.heap.objs.size (.tup [x, y])) { s with heap := g', toks := tk } := I.turnedNew (ch := [z, TI, TO, i1, i2]) hk2 hf (Nat.le_refl _) new
    refine ⟨.ref s.heap.objs.size, _, I1, rfl, ⟨_, x, y, ⟨rfl, I.hok.fresh (Nat.le_refl _), rfl⟩, fun l hl => by rw [I.tuple_inj hl qx]; exact hx, fun l hl => by rw [I.list_inj hl qy]; exact hy⟩, ⟨⟨z2, (sb.2 _ D.TIz).trans (hk _ _ D.TIz D.TITO D.TIi1 D.TIi2 hI), w1, w2, (sb.2 _ D.TOz).trans O'⟩, r1.1.at fun o w => (sb.2 _ D.i1z).trans w, r2.1.at fun o w => (sb.2 _ D.i2z).trans w⟩, fun c hcm => ?_⟩
    have clt : c < s.heap.objs.size := by
      rcases mem5 hcm with w | w | w | w | w
      · rw [w]; exact zlt
      · rw [w]; exact Heap.lt_size hI
      · rw [w]; exact Heap.lt_size hO
      · rw [w]; obtain ⟨_, e, _⟩ := u1; exact Heap.lt_size e
      · rw [w]; obtain ⟨_, e, _⟩ := u2; exact Heap.lt_size e
    rw [upd_ne (Nat.ne_of_lt clt)]
    exact (hf c hcm).1
  done := by
    intro X hP hw hK hc i pins s σ H E I hf st hg
    subst hP hw hK
    obtain ⟨⟨hz, hI, x0, y0, hO⟩, u1, u2⟩ := st
    obtain ⟨xs, ys, ⟨qx, qy⟩, hend⟩ := hg
    obtain ⟨l1, rv1, p1, _⟩ := I.tuple qx
    obtain ⟨l2, rv2, p2, _⟩ := I.list qy
    have m1 := rv1.length
    have m2 := rv2.length
    have pt : s.heap.IsTuple a l1.toArray := p1
    have k1 : i ≤ l1.toArray.size := by simp; omega
    have k2 : i ≤ l2.toArray.size := by simp; omega
    have k3 : i = l1.toArray.size ∨ i = l2.toArray.size := by simp; omega
    refine wpAny_pyNext_zipD2_end (zip_sep D) (draws_tup (A := X.A.in1) (by simpa using I.ok.hd hc) i1 a D.l1i1 l1.toArray) (Draws.list (A := X.A.in1) (by simpa using I.ok.hd hc) i2 b D.l2i2 l2.toArray) hz hI hO ⟨u1, pt⟩ ⟨u2, p2.isList⟩ k1 k2 k3 fun g tk hk => ⟨rfl, I.turnedL (ch := [z, TI, TO, i1, i2]) (fun c o nb w =>
      hk c o (fun e => nb (by simp [e])) (fun e => nb (by simp [e])) (fun e => nb (by simp [e])) (fun e => nb (by simp [e])) w) hf⟩
  self := fun A i s Q E st h => wpAny_pyIter_zip st.1.1 h
def iZipM (K : PySem.W.Frag) (ta : TA) : TI := fun σ H R => ta σ H fun vs H1 => ∃ a b xs ys, vs = [.ref a, .ref b] ∧ ((SqL K H1 a xs ∧ SqL K H1 b ys ∧ R (Itz K a b) H1) ∨ (SqT K H1 a xs ∧ SqT K H1 b ys ∧ R (ItzT K a b) H1) ∨ (SqT K H1 a xs ∧ SqL K H1 b ys ∧ R (ItzM K a b) H1))
theorem pi_zm {X : Cx} {e e2 : Expr} {ta : TA} {p pos tpos : Pos} {elts : List Expr} {kk : Nat} (hg : Gl X "zip") (hm : X.mg "zip" = none) (ha : PA X [e, e2] ta)
    (hs : starEach [e, e2] X.env = (false, eval e X.env) :: starEach [e2] X.env := by rfl) (hpl : (backTo pos (starEach [e2] X.env)).any (·.1) = false := by rfl) :
    PI X (.Tuple elts kk tpos) (.Call (.Name "zip" p) [e, e2] [] pos) (iZipM X.K ta) := by
  refine ⟨fun pins s σ H R I h => PyProof.Rows.Call_ (ld_blt I hg hm PyProof.Rows.boot_zip (PyProof.Rows.callWith_type1 (thn (ha.run pos pins s σ H _ I h) fun us s1 ⟨vs, H1, I1, r1, a, b, xs, ys, ex, q1⟩ => ?_) hs hpl))⟩
  subst ex
  obtain ⟨w1, w2, rfl, r, r'⟩ : ∃ w1 w2, us = [w1, w2] ∧ RelV (.ref a) w1 ∧ RelV (.ref b) w2 := by
    cases r1 with
    | cons r rr =>
      cases rr with
      | cons r' rr =>
        cases rr
        exact ⟨_, _, rfl, r, r'⟩
  cases r
  cases r'
  have fr : ∀ c, c ∈ [s1.heap.objs.size + 4, s1.heap.objs.size + 2, s1.heap.objs.size + 3, s1.heap.objs.size, s1.heap.objs.size + 1] → FpOk X pins H1 c := fun c hcm => by
    have le : s1.heap.objs.size ≤ c := by
      rcases mem5 hcm with w | w | w | w | w <;> rw [w] <;> omega
    exact I1.fpOk le (I1.hok.fresh le)
  rcases q1 with ⟨qx, qy, q⟩ | ⟨qx, qy, q⟩ | ⟨qx, qy, q⟩
  · obtain ⟨l1, _, p1, _⟩ := I1.list qx
    obtain ⟨l2, _, p2, _⟩ := I1.list qy
    exact call_zip_2 p1.isList p2.isList fun g hz hI hO u1 u2 _ hk => wpAny_pyIter_zip hz ⟨_, _, _, _, H1, rfl, I1.kept (t' := s1.toks) hk, turn_zip (PySem.W.ktu_apart s1.heap.objs.size a b p1.lt p2.lt), ⟨hz, hI, ⟨_, _, hO⟩, u1, u2⟩, fr, q⟩
  · obtain ⟨l1, _, p1, _⟩ := I1.tuple qx
    obtain ⟨l2, _, p2, _⟩ := I1.tuple qy
    have t1 : s1.heap.IsTuple a l1.toArray := p1
    have t2 : s1.heap.IsTuple b l2.toArray := p2
    exact call_zipT t1 t2 fun g hz hI hO u1 u2 _ hk => wpAny_pyIter_zip hz ⟨_, _, _, _, H1, rfl, I1.kept (t' := s1.toks) hk, turn_zipT (PySem.W.ktu_apart s1.heap.objs.size a b (by obtain ⟨_, e, _⟩ := t1; exact Heap.lt_size e) (by obtain ⟨_, e, _⟩ := t2; exact Heap.lt_size e)), ⟨hz, hI, ⟨_, _, hO⟩, u1, u2⟩, fr, q⟩
  · obtain ⟨l1, _, p1, _⟩ := I1.tuple qx
    obtain ⟨l2, _, p2, _⟩ := I1.list qy
    have t1 : s1.heap.IsTuple a l1.toArray := p1
    exact call_zm t1 p2.isList fun g hz hI hO u1 u2 hk => wpAny_pyIter_zip hz ⟨_, _, _, _, H1, rfl, I1.kept (t' := s1.toks) hk, turn_zm (PySem.W.ktu_apart s1.heap.objs.size a b (by obtain ⟨_, e, _⟩ := t1; exact Heap.lt_size e) p2.lt), ⟨⟨hz, hI, _, _, hO⟩, u1, u2⟩, fr, q⟩
section
variable {G : Gx}
theorem j_zm {B F1 : Hp} {a b : Addr} {vs ws : List V} {ds es : List D} (h : Rd B a (.tup vs)) (r : Reps G F1 ds vs) (h' : Rd B b (.lst ws)) (r' : Reps G F1 es ws) : JOk G B F1 (ItzM G.K a b) (zipD ds es) := fun F H s1 s2 s3 => by
  have t1 : SqT G.K H a vs := .inl (rd_mono s3 h)
  have t2 : SqL G.K H b ws := .inl (rd_mono s3 h')
  refine ⟨fun i d e => ?_, ⟨vs, ws, ⟨t1, t2⟩, by rw [r.length, r'.length, zipD_len]; omega⟩⟩
  obtain ⟨x, y, ex, ey, rfl⟩ := zipD_at e
  obtain ⟨v, m1, m2⟩ := r.get ex
  obtain ⟨w, f1, f2⟩ := r'.get ey
  refine ⟨⟨vs, ws, v, w, ⟨t1, t2⟩, m1, f1⟩, fun z H' ⟨T, p1, p2, ⟨e1, nT, e2⟩, q1, q2⟩ => ?_⟩
  subst e1 e2
  have m3 := q1 vs t1
  have f3 := q2 ws t2
  rw [m1] at m3
  rw [f1] at f3
  cases m3; cases f3
  exact lay_pair s1 s2 nT m2 f2
end
end G81
end
section
set_option Elab.async false
set_option linter.all false
set_option maxHeartbeats 4000000
namespace G81
open PySem PySem.Spec L2
section
variable {X : Cx} {G : Gx} {F F' H H' : Hp} {Q : VK}
/-- a built-in by what the evaluator says -/
def rBi (G : Gx) (g : List D → R W) : List V → Hp → VK → Prop := fun vs H Q => ∃ F ds, Same F H ∧ BReps G F H ds vs ∧ ans G F H Q (g ds)
theorem br1 {d : D} {vs : List V} (h : BReps G F H [d] vs) : ∃ v, vs = [v] ∧ BRep G F H d v := by
  obtain ⟨v, w, e, h1, h2⟩ := h
  rw [show w = [] from h2] at e
  exact ⟨v, e, h1⟩
theorem br2 {d d' : D} {vs : List V} (h : BReps G F H [d, d'] vs) : ∃ v v', vs = [v, v'] ∧ BRep G F H d v ∧ BRep G F H d' v' := by
  obtain ⟨v, w, e, h1, h2⟩ := h
  obtain ⟨v', e', h3⟩ := br1 h2
  exact ⟨v, v', by rw [e, e'], h1, h3⟩
theorem ints_rep : ∀ {ds : List D} {is : List Int} {vs : List V}, ints? ds = some is → Reps G F ds vs → vs = is.map V.int
  | [], is, vs, e, h => by
    rw [show vs = [] from h]
    cases e
    rfl
  | d :: r, is, vs, e, h => by
    obtain ⟨v, w, ev, h1, h2⟩ := h
    cases d <;> simp [ints?] at e
    obtain ⟨js, e1, e2⟩ := e
    subst e2
    rw [ev, ints_rep e1 h2, show v = _ from h1]
    rfl
theorem bls_rep : ∀ {ds : List D} {is : List Bool} {vs : List V}, bls? ds = some is → Reps G F ds vs → vs = is.map V.bl
  | [], is, vs, e, h => by
    rw [show vs = [] from h]
    cases e
    rfl
  | d :: r, is, vs, e, h => by
    obtain ⟨v, w, ev, h1, h2⟩ := h
    cases d <;> simp [bls?] at e
    obtain ⟨js, e1, e2⟩ := e
    subst e2
    rw [ev, bls_rep e1 h2, show v = _ from h1]
    rfl
theorem call_lenR {X : Cx} : CallR X (.builtin "len") (fun xs H Q => ∃ a kvs, xs = [V.ref a] ∧ Rd H a (.dK kvs) ∧ Q (.int (kvs.length : Nat)) H) := by
  intro pins s σ H xs us Q I r ⟨a, kvs, e, ha, q⟩
  subst e
  obtain ⟨u, rfl, ru⟩ := vals1 r
  cases ru
  exact d_len I ha fun t s' I' => ⟨.int (kvs.length : Nat), H, I', ⟨t, rfl⟩, q⟩
theorem bi_len : CallR X (.builtin "len") (rBi (gx X) lenEv) := by
  intro pins s σ H xs us Q I r h
  obtain ⟨F, ds, sF, b, o⟩ := h
  unfold lenEv at o
  split at o
  · rename_i d
    obtain ⟨v, rfl, bv⟩ := br1 b
    obtain ⟨n, e, o⟩ := (Out.map o).of
    unfold lenD at e
    split at e
    · cases e
      obtain ⟨p, vs, rfl, hp, rr⟩ := bv
      refine call_len pins s σ H _ us Q I r ⟨_, _, rfl, .inl ⟨vs, .inl hp, rfl⟩, ?_⟩
      rw [rr.length]
      exact okW.scal o sF fun _ => rfl
    · cases e
      obtain ⟨p, vs, rfl, hp, rr⟩ := bv
      refine call_len pins s σ H _ us Q I r ⟨_, _, rfl, .inr ⟨vs, .inl (rd_mono sF hp), rfl⟩, ?_⟩
      rw [rr.length]
      exact okW.scal o sF fun _ => rfl
    · split at e
      · rename_i hz
        cases e
        cases bv
        exact call_len pins s σ H _ us Q I r ⟨_, _, rfl, ⟨sizes hz, rfl⟩, okW.scal o sF fun _ => rfl⟩
      · cases e
    · cases e
      obtain ⟨p, vs, rfl, hp, rr⟩ := bv
      refine call_lenR pins s σ H _ us Q I r ⟨p, vs, rfl, hp, ?_⟩
      rw [rr.length]
      exact okW.scal o sF fun _ => rfl
    · cases e
  · exact o.elim
theorem max_fold : ∀ (r : List Int) (x : Int), r.foldl max x ∈ x :: r ∧ ∀ y ∈ x :: r, y ≤ r.foldl max x
  | [], x => ⟨by simp, fun y hy => by simp at hy; subst hy; exact Int.le_refl _⟩
  | b :: r, x => by
    obtain ⟨z, ez, h1, h2, h3⟩ : ∃ z, max x b = z ∧ x ≤ z ∧ b ≤ z ∧ (z = x ∨ z = b) := ⟨_, rfl, by omega, by omega, by omega⟩
    have ih := max_fold r z
    rw [List.foldl_cons, ez]
    refine ⟨?_, fun y hy => ?_⟩
    · rcases List.mem_cons.mp ih.1 with h | h
      · rw [h]
        rcases h3 with h3 | h3 <;> rw [h3] <;> simp
      · exact List.mem_cons_of_mem _ (List.mem_cons_of_mem _ h)
    · have h0 := ih.2 _ List.mem_cons_self
      rcases List.mem_cons.mp hy with h | h
      · subst h; omega
      · rcases List.mem_cons.mp h with h | h
        · subst h; omega
        · exact ih.2 y (List.mem_cons_of_mem _ h)
theorem maxI_spec {is : List Int} {m : Int} (h : maxI is = some m) : m ∈ is ∧ ∀ y ∈ is, y ≤ m := by
  cases is with
  | nil => cases h
  | cons x r =>
    cases h
    exact max_fold r x
theorem maxI_only {is : List Int} {m k : Int} (h : maxI is = some m) (h1 : k ∈ is) (h2 : ∀ y ∈ is, y ≤ k) : k = m := by
  have s := maxI_spec h
  have a := s.2 k h1
  have b := h2 m s.1
  omega
theorem bi_max (hc : X.calm = true) : CallR X (.builtin "max") (rBi (gx X) maxEv) := by
  intro pins s σ H xs us Q I r h
  obtain ⟨F, ds, sF, b, o⟩ := h
  unfold maxEv at o
  split at o
  · obtain ⟨v, v', rfl, b1, b2⟩ := br2 b
    cases b1; cases b2
    exact call_max2 hc pins s σ H _ us Q I r ⟨_, _, rfl, okW.scal o sF fun _ => rfl⟩
  · obtain ⟨v, rfl, bv⟩ := br1 b
    obtain ⟨m, e, o⟩ := (Out.map o).of
    obtain ⟨p, vs, rfl, hp, rr⟩ := bv
    obtain ⟨is, ei, e⟩ := Option.bind_eq_some_iff.mp e
    have ev := ints_rep ei rr
    subst ev
    refine cr_max hc pins s σ H _ us Q I r ⟨p, is, rfl, .inl hp, ?_, fun k h1 h2 => ?_⟩
    · cases is with
      | nil => cases e
      | cons a b => exact Nat.zero_lt_succ _
    · rw [maxI_only e h1 h2]
      exact okW.scal o sF fun _ => rfl
  · exact o.elim
theorem bi_abs : CallR X (.builtin "abs") (rBi (gx X) absEv) := by
  intro pins s σ H xs us Q I r h
  obtain ⟨F, ds, sF, b, o⟩ := h
  unfold absEv at o
  split at o
  · obtain ⟨v, rfl, bv⟩ := br1 b
    cases bv
    exact call_abs pins s σ H _ us Q I r ⟨_, rfl, okW.scal o sF fun _ => rfl⟩
  · exact o.elim
theorem bi_int : CallR X (.type "int") (rBi (gx X) intEv) := by
  intro pins s σ H xs us Q I r h
  obtain ⟨F, ds, sF, b, o⟩ := h
  unfold intEv at o
  split at o
  · obtain ⟨v, rfl, bv⟩ := br1 b
    cases bv
    exact call_int1 pins s σ H _ us Q I r (.inl ⟨_, rfl, okW.scal o sF fun _ => rfl⟩)
  · obtain ⟨v, rfl, bv⟩ := br1 b
    cases bv
    exact call_int1 pins s σ H _ us Q I r (.inr ⟨_, rfl, okW.scal o sF fun _ => rfl⟩)
  · split at o
    · rename_i hz
      obtain ⟨v, rfl, bv⟩ := br1 b
      obtain ⟨n, e, o⟩ := (Out.map o).of
      cases bv
      exact call_int_str pins s σ H _ us Q I r ⟨_, n, rfl, e, by omega, okW.scal o sF fun _ => rfl⟩
    · exact o.elim
  · exact o.elim
theorem bi_str : CallR X (.type "str") (rBi (gx X) strEv) := by
  intro pins s σ H xs us Q I r h
  obtain ⟨F, ds, sF, b, o⟩ := h
  unfold strEv at o
  split at o
  · split at o
    · rename_i hz
      obtain ⟨v, rfl, bv⟩ := br1 b
      cases bv
      refine call_str_int pins s σ H _ us Q I r ⟨_, rfl, ?_, okW.scal o sF fun _ => rfl⟩
      rename_i i
      by_cases h0 : i.natAbs = 0
      · rw [h0]; decide
      · have := (Nat.log2_lt h0).mpr hz
        omega
    · exact o.elim
  · exact o.elim
theorem bi_sum (hc : X.calm = true) : CallR X (.builtin "sum") (rBi (gx X) sumEv) := by
  intro pins s σ H xs us Q I r h
  obtain ⟨F, ds, sF, b, o⟩ := h
  unfold sumEv at o
  split at o
  · obtain ⟨v, rfl, bv⟩ := br1 b
    obtain ⟨m, e, o⟩ := (Out.map o).of
    obtain ⟨p, vs, rfl, hp, rr⟩ := bv
    have ev := ints_rep e rr
    subst ev
    exact cr_sum hc pins s σ H _ us Q I r ⟨p, _, rfl, .inl hp, okW.scal o sF fun _ => rfl⟩
  · exact o.elim
theorem bi_any (hc : X.calm = true) : CallR X (.builtin "any") (rBi (gx X) anyEv) := by
  intro pins s σ H xs us Q I r h
  obtain ⟨F, ds, sF, b, o⟩ := h
  unfold anyEv at o
  split at o
  · obtain ⟨v, rfl, bv⟩ := br1 b
    obtain ⟨m, e, o⟩ := (Out.map o).of
    obtain ⟨p, vs, rfl, hp, rr⟩ := bv
    have ev := bls_rep e rr
    subst ev
    exact cr_any hc pins s σ H _ us Q I r ⟨p, _, rfl, .inl hp, okW.scal o sF fun _ => rfl⟩
  · exact o.elim
theorem bi_all (hc : X.calm = true) : CallR X (.builtin "all") (rBi (gx X) allEv) := by
  intro pins s σ H xs us Q I r h
  obtain ⟨F, ds, sF, b, o⟩ := h
  unfold allEv at o
  split at o
  · obtain ⟨v, rfl, bv⟩ := br1 b
    obtain ⟨m, e, o⟩ := (Out.map o).of
    obtain ⟨p, vs, rfl, hp, rr⟩ := bv
    have ev := bls_rep e rr
    subst ev
    exact cr_all hc pins s σ H _ us Q I r ⟨p, _, rfl, .inl hp, okW.scal o sF fun _ => rfl⟩
  · exact o.elim
theorem bi_tuple : CallR X (.type "tuple") (rBi (gx X) tupleEv) := by
  intro pins s σ H xs us Q I r h
  obtain ⟨F, ds, sF, b, o⟩ := h
  unfold tupleEv at o
  split at o
  · obtain ⟨v, rfl, bv⟩ := br1 b
    obtain ⟨p, vs, rfl, hp, rr⟩ := bv
    exact call_tuple_of pins s σ H _ us Q I r ⟨p, vs, rfl, .inl ⟨.inl hp, fun l nl => okW.tup o sF rr nl⟩⟩
  · obtain ⟨v, rfl, bv⟩ := br1 b
    have bv' := bv
    obtain ⟨p, vs, rfl, hp, rr⟩ := bv
    exact call_tuple_of pins s σ H _ us Q I r ⟨p, vs, rfl, .inr ⟨.inl (rd_mono sF hp), okW.d o sF bv'⟩⟩
  · exact o.elim
theorem putD_rep {k : Key} {d : D} {v : V} (hd : Rep G F d v) {kvs : List (Key × D)} {us : List (Key × V)} (h : RepKs G F kvs us) : RepKs G F (putD kvs k d) (putK us k v) := by
  have any_eq : ∀ {kvs : List (Key × D)} {us : List (Key × V)}, RepKs G F kvs us → (us.any fun kv => decide (kv.1 = k)) = kvs.any fun kv => decide (kv.1 = k) := by
    intro kvs
    induction kvs with
    | nil => intro us h; rw [show us = [] from h]; rfl
    | cons p r ih =>
      intro us h
      obtain ⟨j, d'⟩ := p
      obtain ⟨v', w, e, _, h2⟩ := h
      rw [e, List.any_cons, List.any_cons, ih h2]
  have map_rep : ∀ {kvs : List (Key × D)} {us : List (Key × V)}, RepKs G F kvs us → RepKs G F (kvs.map fun kv => if kv.1 = k then (kv.1, d) else kv) (us.map fun kv => if kv.1 = k then (kv.1, v) else kv) := by
    intro kvs
    induction kvs with
    | nil => intro us h; rw [show us = [] from h]; rfl
    | cons p r ih =>
      intro us h
      obtain ⟨j, d'⟩ := p
      obtain ⟨v', w, e, h1, h2⟩ := h
      rw [e, List.map_cons, List.map_cons]
      by_cases hj : j = k
      · rw [if_pos hj, if_pos hj]
        exact ⟨v, _, rfl, hd, ih h2⟩
      · rw [if_neg hj, if_neg hj]
        exact ⟨v', _, rfl, h1, ih h2⟩
  have app_rep : ∀ {kvs : List (Key × D)} {us : List (Key × V)}, RepKs G F kvs us → RepKs G F (kvs ++ [(k, d)]) (us ++ [(k, v)]) := by
    intro kvs
    induction kvs with
    | nil => intro us h; rw [show us = [] from h]; exact ⟨v, [], rfl, hd, rfl⟩
    | cons p r ih =>
      intro us h
      obtain ⟨j, d'⟩ := p
      obtain ⟨v', w, e, h1, h2⟩ := h
      rw [e]
      exact ⟨v', _, rfl, h1, ih h2⟩
  unfold putD putK
  rw [any_eq h]
  split
  · exact map_rep h
  · exact app_rep h
theorem mergeD_rep : ∀ {more : List (Key × D)} {ms : List (Key × V)} {kvs : List (Key × D)} {us : List (Key × V)}, RepKs G F more ms → RepKs G F kvs us → RepKs G F (mergeD kvs more) (mergeK us ms)
  | [], ms, _, _, h, h' => by rw [show ms = [] from h]; exact h'
  | (k, d) :: r, ms, kvs, us, h, h' => by
    obtain ⟨v, w, e, h1, h2⟩ := h
    subst e
    show RepKs G F (mergeD (putD kvs k d) r) (mergeK (putK us k v) w)
    exact mergeD_rep h2 (putD_rep h1 h')
theorem pairs_rep : ∀ {ds : List D} {kvs : List (Key × D)} {vs : List V}, pairs? ds = some kvs → Reps G F ds vs →
    ∃ (ps : List Addr) (us : List (Key × V)), vs = ps.map V.ref ∧ Paired (fun p kv => SqT G.K F p [kV kv.1, kv.2]) ps us ∧ RepKs G F kvs us
  | [], kvs, vs, e, h => by
    rw [show vs = [] from h]
    cases e
    exact ⟨[], [], rfl, .nil, rfl⟩
  | d :: r, kvs, vs, e, h => by
    obtain ⟨v, w, ev, h1, h2⟩ := h
    unfold pairs? at e
    split at e
    · rename_i q; cases q
    · rename_i a b r' heq
      cases heq
      cases ek : key? a with
      | none => rw [ek] at e; cases e
      | some k =>
        rw [ek] at e
        cases er : pairs? r with
        | none => rw [er] at e; cases e
        | some ks =>
          rw [er] at e
          cases e
          obtain ⟨p, zs, ep, hp, y, ys, ez, ha, z, zz, ez2, hb, hn⟩ := h1
          rw [show zz = [] from hn] at ez2
          subst ez2 ez ep
          obtain ⟨ps, us, e1, e2, e3⟩ := pairs_rep er h2
          have ey := key_rep ek ha
          subst ey
          exact ⟨p :: ps, (k, z) :: us, by rw [ev, e1]; rfl, .cons (.inl hp) e2, z, us, rfl, hb, e3⟩
    · cases e
theorem paired_mono {α β : Type} {P P' : α → β → Prop} (h : ∀ a b, P a b → P' a b) : ∀ {xs : List α} {ys : List β}, Paired P xs ys → Paired P' xs ys
  | _, _, .nil => .nil
  | _, _, .cons a b => .cons (h _ _ a) (paired_mono h b)
theorem sqT_mono {K : PySem.W.Frag} {a : Addr} {xs : List V} (e : Same H H') (h : SqT K H a xs) : SqT K H' a xs := by
  rcases h with h | h
  · exact .inl (rd_mono e h)
  · exact .inr h
theorem bi_dict (hc : X.calm = true) : CallR X (.type "dict") (rBi (gx X) dictEv) := by
  intro pins s σ H xs us Q I r h
  obtain ⟨F, ds, sF, b, o⟩ := h
  unfold dictEv at o
  split at o
  · obtain ⟨v, rfl, bv⟩ := br1 b
    obtain ⟨kvs, e, o⟩ := (Out.map o).of
    obtain ⟨p, vs, rfl, hp, rr⟩ := bv
    obtain ⟨ps, us', e1, e2, e3⟩ := pairs_rep e rr
    subst e1
    refine call_dictP hc pins s σ H _ us Q I r ⟨p, ps, us', rfl, .inl hp, paired_mono (fun _ _ z => sqT_mono sF z) e2, fun q nq => okW.fd o sF (mergeD_rep e3 rfl) nq⟩
  · obtain ⟨v, rfl, bv⟩ := br1 b
    obtain ⟨p, vs, rfl, hp, rr⟩ := bv
    exact call_dictD pins s σ H _ us Q I r ⟨p, vs, rfl, hp, fun q nq => okW.fd o sF rr nq⟩
  · exact o.elim
end
end G81
end
section
set_option Elab.async false
set_option linter.all false
set_option maxHeartbeats 4000000
set_option maxRecDepth 100000
namespace G81
open PySem PySem.Spec L2 PyProof.Rows
section
variable {prog : Program} {w : World} {A : Around} {E : Value → Shared → Prop} {s : Shared}
theorem gather_tup {l : Addr} {us : List Value} {Q : List Value → Shared → Prop} (hl : s.heap.IsTuple l us.toArray) (h : Q us { s with heap := (s.heap.push (seqObj "list" #[] 0)).update s.heap.objs.size (Obj.mapSeq (· ++ us.toArray)) }) (hsz : us.length ≤ sizeLine) : wpAny (model prog w) A (collect (.ref l)) Q E s := by
  obtain ⟨ob, ho, hc, n, hd⟩ := id hl
  have hb : (s.heap.push (seqObj "list" #[] 0)).get? l = some ob := Heap.get?_push_of_some _ ho
  have tl : (Value.type "tuple" == Value.type "list") = false := by decide
  have tt : (Value.type "tuple" == Value.type "tuple") = true := by decide
  unfold collect
  refine wpAny_bind (wpAny_runValue (codeAny_builtin entry_proto_collect' (?_ : wpAny (model prog w) _ (do again (.builtin "list.__iadd__" ⟨[← newList [], .ref l], []⟩)) _ _ s)))
  refine wpAny_bind (wpAny_newList (wpAny_pure ⟨Code.quiet_builtin _ (by decide +kernel), codeAny_builtin entry_list_iadd' (?_ : wpAny (model prog w) _ (Builtin.List.listExtendWith (.ref s.heap.objs.size) (.ref l) (.ref s.heap.objs.size)) _ _ { s with heap := s.heap.push (seqObj "list" #[] 0) })⟩))
  unfold Builtin.List.listExtendWith
  refine wpAny_bind (wpAny_typeOf (T := "tuple") ⟨ob, hb, hc⟩ ?_)
  rw [if_pos (by rw [tl, tt]; simp)]
  refine wpAny_bind (listItems_at hb hd (wpAny_bind (listItems_at (xs := #[]) (n := 0) (Heap.get?_push_size _ rfl) rfl ?_)))
  rw [if_neg (by simp)]
  refine wpAny_bind (listUpdate_at (xs := #[]) (n := 0) (Heap.get?_push_size _ rfl) rfl (wpAny_pure (?_ : wpAny (model prog w) _ (do
      let o ← load s.heap.objs.size
      match o.data with
      | .seq xs _ => pure xs.toList
      | _ => unsupported "internal:collect") Q E { s with heap := (s.heap.push (seqObj "list" #[] 0)).update s.heap.objs.size (Obj.mapSeq (· ++ us.toArray)) })) (Nat.zero_le _) (by simp only [Array.size_append, List.size_toArray, List.length_nil]; omega))
  refine wpAny_bind (wpAny_load (get?_update_seq (Heap.get?_push_size _ rfl) _) (?_ : wpAny (model prog w) _ (pure ((#[] : Array Value) ++ us.toArray).toList) Q E _))
  have et : ((#[] : Array Value) ++ us.toArray).toList = us := by simp
  rw [et]
  exact wpAny_pure h
theorem sorted_tupI {l : Addr} {us : List Value} {ns : List Int} {Q : Value → Shared → Prop} (hl : s.heap.IsTuple l us.toArray) (hI : IntsAre us ns) (h64 : us.length < 64)
    (h : ∀ (out : Array Value) (ns' : List Int), IntsAre out.toList ns' → ns'.Perm ns → ns'.Pairwise (· ≤ ·) → Q (.ref (s.heap.objs.size + 1)) { s with heap := sortedAll s.heap us out }) : wpAny (model prog w) A (call (.builtin "sorted") [.ref l]) Q E s := by
  have z1 : ((s.heap.push (seqObj "list" #[] 0)).update s.heap.objs.size (Obj.mapSeq (· ++ us.toArray))).objs.size = s.heap.objs.size + 1 := by
    rw [Heap.size_update, size_push']
  have ho : (((s.heap.push (seqObj "list" #[] 0)).update s.heap.objs.size (Obj.mapSeq (· ++ us.toArray))).push (seqObj "list" us.toArray 0)).get? (s.heap.objs.size + 1) = some (seqObj "list" us.toArray 0) := by
    rw [← z1]
    exact Heap.get?_push_size _ rfl
  refine Calls.call_function_entry kind_sorted plain_sorted entry_sorted (args_sorted1 _) (?_ : wpAny (model prog w) _ _ _ _ _)
  unfold Builtin.«sorted»
  refine wpAny_bind (m := checkCount "sorted" 1 1 _) (wpAny_pure (wpAny_bind (gather_tup hl (wpAny_bind (wpAny_newList ?_ (by rw [sizeLine_eq]; omega))) (by rw [sizeLine_eq]; omega))))
  show wpAny _ _ _ _ _ { s with heap := ((s.heap.push (seqObj "list" #[] 0)).update s.heap.objs.size (Obj.mapSeq (· ++ us.toArray))).push (seqObj "list" us.toArray 0) }
  rw [z1]
  exact wpAny_bind (wpAny_holding (wpAny_call_entry slot_list_sort ⟨_, ho, rfl⟩ entry_list_sort (list_sort_tree ho hI h64 fun out ns' a1 a2 a3 => ⟨_, rfl, wpAny_pure ⟨_, rfl, h out ns' a1 a2 a3⟩⟩) (args_list_sort _)))
open PySem.W in
theorem sorted_tup_data {β : Type} {l : Addr} {us : List Value} {bs : List β} {R : Value → β → Prop} {enc : β → PyData} {Q : Value → Shared → Prop} (hl : s.heap.IsTuple l us.toArray) (e : EachIs R us bs) (er : EachIs (fun v b => ∃ as, Reads s.heap v (enc b) as) us bs) (hal : AllAlike (bs.map enc)) (hk : Sortable (bs.map enc))
    (hL : bs.length ≤ sizeLine) (hu : ∀ b, b ∈ bs → A.units + 2 + (enc b).depth < cLine) (h : ∀ out, out.length = bs.length → EachIs R out (bs.mergeSort (dataLe false enc)) → Q (.ref (s.heap.objs.size + 1)) { s with heap := sortedAll s.heap us (List.toArray out) }) : wpAny (model prog w) A (call (.builtin "sorted") [.ref l]) Q E s := by
  have hL2 : us.length ≤ sizeLine := by rw [e.length]; exact hL
  have er2 : EachIs (fun v b => ∃ as, Reads (sortingHeap (copyHeap s.heap us) (s.heap.objs.size + 1) us) v (enc b) as) us bs := er.mono fun _ _ ⟨as, r⟩ => ⟨as, PyProof.Rows.Reads.keeps (fun _ _ => sorting_copy_old) r⟩
  have S : SortsAt prog w A.in1.in1 { s with heap := sortingHeap (copyHeap s.heap us) (s.heap.objs.size + 1) us } (dataKind (sortingHeap (copyHeap s.heap us) (s.heap.objs.size + 1) us) (bs.map enc)) us :=
    SortsAt.data (s := { s with heap := sortingHeap (copyHeap s.heap us) (s.heap.objs.size + 1) us }) (each_map (R := fun v d => ∃ as, Reads (sortingHeap (copyHeap s.heap us) (s.heap.objs.size + 1) us) v d as) enc er2) hal hk fun d hd => by
      obtain ⟨b, hb, rfl⟩ := List.mem_map.mp hd
      exact hu b hb
  have fin := h _ (by rw [sortVals_length false rfl]; exact e.length) (sortVals_data false e er2 hal)
  have z1 : ((s.heap.push (seqObj "list" #[] 0)).update s.heap.objs.size (Obj.mapSeq (· ++ us.toArray))).objs.size = s.heap.objs.size + 1 := by
    rw [Heap.size_update, size_push']
  refine call_function_entry_kw kind_sorted plain_sorted entry_sorted (args_sorted1 _) (?_ : wpAny (model prog w) _ _ _ _ _)
  unfold Builtin.«sorted»
  refine wpAny_bind (m := checkCount "sorted" 1 1 _) (wpAny_pure (wpAny_bind (gather_tup hl (wpAny_bind (wpAny_newList (?_ : wpAny (model prog w) _ _ _ _ { s with heap := copyHeap s.heap us }) hL2)) hL2)))
  rw [z1]
  refine wpAny_bind (wpAny_holding (wpAny_call_entry_kw slot_list_sort ⟨_, copyHeap_at s.heap us, rfl⟩ entry_list_sort (?_ : wpAny (model prog w) A.in1.in1 (Builtin.«list.sort» ⟨[.ref (s.heap.objs.size + 1)], []⟩) _ _ _) (args_list_sort _)))
  exact list_sort_vals (s := { s with heap := copyHeap s.heap us }) (copyHeap_at s.heap us) S hL2 ⟨_, rfl, wpAny_pure ⟨_, rfl, fin⟩⟩
end
theorem vals_intsAre : ∀ {ns : List Int} {us : List Value}, Vals (ns.map V.int) us → IntsAre us ns
  | [], _, .nil => .nil
  | n :: ns, _, .cons ⟨k, e⟩ t => by
    subst e
    exact .cons n k (vals_intsAre t)
theorem intsAre_vals' : ∀ {us : List Value} {ns : List Int}, IntsAre us ns → Vals (ns.map V.int) us
  | _, _, .nil => .nil
  | _, _, .cons n k t => .cons ⟨k, rfl⟩ (intsAre_vals' t)
theorem reps_int {G : Gx} {F : Hp} : ∀ ns : List Int, Reps G F (ns.map D.int) (ns.map V.int)
  | [] => rfl
  | i :: r => ⟨.int i, _, rfl, rfl, reps_int r⟩
def leI (i j : Int) : Bool := decide (i ≤ j)
theorem sortI_eq {l l' : List Int} (p : l'.Perm l) (h : l'.Pairwise (· ≤ ·)) : l' = l.mergeSort fun i j => decide (i ≤ j) := by
  refine List.Perm.eq_of_pairwise (le := fun i j => i ≤ j) (fun a b _ _ h1 h2 => Int.le_antisymm h1 h2) h ?_ (p.trans (List.mergeSort_perm l _).symm)
  exact (List.pairwise_mergeSort (le := fun i j : Int => decide (i ≤ j)) (fun a b c h1 h2 => by simp only [decide_eq_true_eq] at *; omega) (fun a b => by simp only [Bool.or_eq_true, decide_eq_true_eq]; omega) l).imp fun h => by simpa using h
theorem leS_trans (a b c : Str) (h1 : leS a b = true) (h2 : leS b c = true) : leS a c = true := by
  simp only [leS, decide_eq_true_eq] at *
  exact List.le_trans h1 h2
theorem leS_total (a b : Str) : (leS a b || leS b a) = true := by
  simp only [leS, Bool.or_eq_true, decide_eq_true_eq]
  exact List.le_total _ _
theorem leS_antisymm (a b : Str) (h1 : leS a b = true) (h2 : leS b a = true) : a = b := by
  simp only [leS, decide_eq_true_eq] at *
  have e := List.le_antisymm h1 h2
  have hc : a.cps = b.cps := Array.toList_inj.mp e
  cases a; cases b
  simp only [Str.mk.injEq]
  exact hc
theorem sortS_perm {l l' : List Str} (p : l'.Perm l) : l'.mergeSort leS = l.mergeSort leS := by
  refine List.Perm.eq_of_pairwise (le := fun a b => leS a b = true) (fun a b _ _ => leS_antisymm a b) (List.pairwise_mergeSort leS_trans leS_total l') (List.pairwise_mergeSort leS_trans leS_total l) ?_
  exact (List.mergeSort_perm l' _).trans (p.trans (List.mergeSort_perm l _).symm)
theorem ltCps_lt : ∀ a b : List Nat, PySem.Spec.ltCps a b = true ↔ a < b
  | [], [] => by simp [PySem.Spec.ltCps]
  | [], _ :: _ => by simp [PySem.Spec.ltCps]
  | _ :: _, [] => by simp [PySem.Spec.ltCps]
  | x :: r, y :: t => by
    rw [PySem.Spec.ltCps, List.cons_lt_cons_iff, Bool.or_eq_true, Bool.and_eq_true, decide_eq_true_eq, beq_iff_eq, ltCps_lt r t]
theorem rising_leS : ∀ (x : Str) (l : List Str), risingS x l = true → (x :: l).Pairwise (fun a b => leS a b = true)
  | x, [], _ => List.pairwise_singleton _ _
  | x, y :: r, h => by
    simp only [risingS, Bool.and_eq_true, Bool.not_eq_true'] at h
    have ih := rising_leS y r h.2
    have hxy : leS x y = true := by
      have hn : ¬ y.cps.toList < x.cps.toList := fun q => by
        rw [(ltCps_lt _ _).mpr q] at h
        exact Bool.noConfusion h.1
      simp only [leS, decide_eq_true_eq]
      exact List.not_lt.mp hn
    refine List.pairwise_cons.mpr ⟨fun z hz => ?_, ih⟩
    rcases List.mem_cons.mp hz with rfl | hz
    · exact hxy
    · exact leS_trans _ _ _ hxy (List.rel_of_pairwise_cons ih hz)
theorem sortedS_eq {l l' : List Str} (p : l'.Perm l) (h : sortedS l' = true) : l' = l.mergeSort leS := by
  have hp : l'.Pairwise (fun a b => leS a b = true) := by
    cases l' with
    | nil => exact List.Pairwise.nil
    | cons x r => exact rising_leS x r h
  exact List.Perm.eq_of_pairwise (le := fun a b => leS a b = true) (fun a b _ _ => leS_antisymm a b) hp (List.pairwise_mergeSort leS_trans leS_total l) (p.trans (List.mergeSort_perm l _).symm)
end G81
end
section
set_option Elab.async false
set_option linter.all false
set_option maxHeartbeats 4000000
namespace G81
open PySem PySem.Spec L2
section
variable {X : Cx} {G : Gx} {F F' H H' : Hp} {Q : VK} {pins : List (Addr × Obj)} {σ : St} {s : Shared}
mutual
theorem toP_inj : ∀ (n : Nat) (d e : D), D.pl n d = true → D.pl n e = true → d.toP = e.toP → d = e
  | n, d, e, h1, h2, q => by
    cases d with
    | tup ds =>
      cases n with
      | zero => simp [D.pl] at h1
      | succ n =>
        cases e with
        | tup es =>
          have q : D.toPs ds = D.toPs es := by simpa [D.toP] using q
          rw [toPs_inj n ds es (by simpa [D.pl] using h1) (by simpa [D.pl] using h2) q]
        | dic es => simp [D.pl] at h2
        | exc es => simp [D.pl] at h2
        | fn es => simp [D.pl] at h2
        | _ => simp [D.toP] at q
    | lst ds =>
      cases n with
      | zero => simp [D.pl] at h1
      | succ n =>
        cases e with
        | lst es =>
          have q : D.toPs ds = D.toPs es := by simpa [D.toP] using q
          rw [toPs_inj n ds es (by simpa [D.pl] using h1) (by simpa [D.pl] using h2) q]
        | dic es => simp [D.pl] at h2
        | exc es => simp [D.pl] at h2
        | fn es => simp [D.pl] at h2
        | _ => simp [D.toP] at q
    | dic es => simp [D.pl] at h1
    | exc es => simp [D.pl] at h1
    | fn es => simp [D.pl] at h1
    | non => cases e <;> first | rfl | (simp [D.toP] at q; done) | (simp [D.pl] at h2; done)
    | int i => cases e <;> first | (simp [D.toP] at q; subst q; rfl) | (simp [D.toP] at q; done) | (simp [D.pl] at h2; done)
    | bl i => cases e <;> first | (simp [D.toP] at q; subst q; rfl) | (simp [D.toP] at q; done) | (simp [D.pl] at h2; done)
    | str i => cases e <;> first | (simp [D.toP] at q; subst q; rfl) | (simp [D.toP] at q; done) | (simp [D.pl] at h2; done)
theorem toPs_inj : ∀ (n : Nat) (ds es : List D), D.pls n ds = true → D.pls n es = true → D.toPs ds = D.toPs es → ds = es
  | n, [], [], _, _, _ => rfl
  | n, [], e :: es, _, _, q => by simp [D.toPs] at q
  | n, d :: ds, [], _, _, q => by simp [D.toPs] at q
  | n, d :: ds, e :: es, h1, h2, q => by
    have h1 : D.pl n d = true ∧ D.pls n ds = true := by simpa [D.pls] using h1
    have h2 : D.pl n e = true ∧ D.pls n es = true := by simpa [D.pls] using h2
    have q : d.toP = e.toP ∧ D.toPs ds = D.toPs es := by simpa [D.toPs] using q
    rw [toP_inj n d e h1.1 h2.1 q.1, toPs_inj n ds es h1.2 h2.2 q.2]
end
theorem pls_mem {n : Nat} : ∀ {ds : List D}, D.pls n ds = true → ∀ d ∈ ds, D.pl n d = true
  | [], _, d, h => by cases h
  | e :: r, p, d, h => by
    have p : D.pl n e = true ∧ D.pls n r = true := by simpa [D.pls] using p
    rcases List.mem_cons.mp h with rfl | h
    · exact p.1
    · exact pls_mem p.2 d h
theorem sort_facts {ds : List D} (h : sortOk ds = true) : ds.length ≤ SIZE ∧ D.pls NEST ds = true ∧ (∀ d ∈ ds, ∀ e ∈ ds, PySem.W.alike d.toP e.toP = true) ∧ PySem.W.Sortable (ds.map D.toP) ∧ ∀ d ∈ ds, d.toP ≠ .none := by
  unfold sortOk at h
  simp only [Bool.and_eq_true, decide_eq_true_eq, Bool.or_eq_true] at h
  obtain ⟨⟨⟨h1, h2⟩, h3⟩, h4⟩ := h
  refine ⟨h1, h2, fun d hd e he => List.all_eq_true.mp (List.all_eq_true.mp h3 d hd) e he, ?_, fun d hd => ?_⟩
  · rcases h4 with h4 | h4
    · refine .inr fun p hp => ?_
      obtain ⟨d, hd, rfl⟩ := List.mem_map.mp hp
      have q := List.all_eq_true.mp h4 d hd
      cases d <;> first | (simp [nonTup] at q; done) | (constructor <;> simp [D.toP])
    · refine .inl fun p hp => ?_
      obtain ⟨d, hd, rfl⟩ := List.mem_map.mp hp
      have q := List.all_eq_true.mp h4 d hd
      cases d with
      | tup es =>
        cases es with
        | nil => simp [bigTup] at q
        | cons a b => exact ⟨a.toP, D.toPs b, rfl⟩
      | _ => simp [bigTup] at q
  · rcases h4 with h4 | h4
    · have q := List.all_eq_true.mp h4 d hd
      cases d <;> first | (simp [nonTup] at q; done) | simp [D.toP]
    · have q := List.all_eq_true.mp h4 d hd
      cases d <;> first | (simp [bigTup] at q; done) | simp [D.toP]
theorem minD_toP : ∀ (r : List D) (x : D), PySem.W.minD x.toP (r.map D.toP) = (r.foldl (fun a b => if ltb b a then b else a) x).toP
  | [], x => rfl
  | y :: r, x => by
    show PySem.W.minD (if PySem.W.dataLt y.toP x.toP = true then y.toP else x.toP) (r.map D.toP) = _
    rw [List.foldl_cons]
    have e : (if PySem.W.dataLt y.toP x.toP = true then y.toP else x.toP) = (if ltb y x = true then y else x).toP := by
      unfold ltb
      split <;> rfl
    rw [e, minD_toP r]
theorem min_mem : ∀ (r : List D) (x : D), r.foldl (fun a b => if ltb b a then b else a) x ∈ x :: r
  | [], x => List.mem_cons_self
  | y :: r, x => by
    rw [List.foldl_cons]
    rcases List.mem_cons.mp (min_mem r (if ltb y x = true then y else x)) with h | h
    · rw [h]
      split <;> simp
    · exact List.mem_cons_of_mem _ (List.mem_cons_of_mem _ h)
theorem vals_get {vs : List V} {us : List Value} (r : Vals vs us) {i : Nat} {u : Value} (h : us[i]? = some u) : ∃ v, vs[i]? = some v ∧ RelV v u := by
  have hl := r.length
  have hi : i < vs.length := by
    have := (List.getElem?_eq_some_iff.mp h).1
    omega
  obtain ⟨u', e, ru⟩ := r.get (List.getElem?_eq_getElem hi)
  rw [h] at e
  cases e
  exact ⟨_, List.getElem?_eq_getElem hi, ru⟩
theorem bi_min (hc : X.calm = true) (hu : X.A.units + 64 < cLine) : CallR X (.builtin "min") (rBi (gx X) minEv) := by
  intro pins s σ H xs us Q I r h
  obtain ⟨F, ds, sF, b, o⟩ := h
  unfold minEv at o
  split at o
  · obtain ⟨v, v', rfl, b1, b2⟩ := br2 b
    cases b1; cases b2
    exact call_min2 hc pins s σ H _ us Q I r ⟨_, _, rfl, okW.scal o sF fun _ => rfl⟩
  · rename_i ds
    split at o
    · rename_i so
      obtain ⟨f1, f2, f3, f4, f5⟩ := sort_facts so
      obtain ⟨v, rfl, bv⟩ := br1 b
      obtain ⟨m, e, o⟩ := (Out.map o).of
      obtain ⟨p, vs, rfl, hp, rr⟩ := bv
      rw [Vals.ref1 r]
      obtain ⟨its, rv, hl, hz⟩ := I.list (xs := vs) (.inl hp)
      cases ds with
      | nil => cases e
      | cons x rest =>
        obtain ⟨as, rd⟩ := Dp.readsAll I _ _ its (dps_of sF NEST _ f2 rr) rv
        have pd := plain_toPs NEST _ f2
        have hn : NEST = 20 := rfl
        have rd : ReadsAll s.heap its (x.toP :: rest.map D.toP) as := by
          rw [toPs_map] at rd
          exact rd
        refine PySem.W.min_list_data (vs := its.toArray) (I.ok.hd hc) hl.isList (by simpa using rd) ⟨fun a ha b hb => ?_, fun a ha => ?_⟩ (by rw [toPs_map] at pd; have := pd.2; rw [List.map_cons] at this; omega) fun i u h' tk bs hu rds kp => ?_
        · have ha : a ∈ (x :: rest).map D.toP := ha
          have hb : b ∈ (x :: rest).map D.toP := hb
          obtain ⟨a', ha', rfl⟩ := List.mem_map.mp ha
          obtain ⟨b', hb', rfl⟩ := List.mem_map.mp hb
          exact f3 a' ha' b' hb'
        · have ha : a ∈ (x :: rest).map D.toP := ha
          obtain ⟨a', ha', rfl⟩ := List.mem_map.mp ha
          exact f5 a' ha'
        · obtain ⟨v, hv, ru⟩ := vals_get rv (by simpa using hu)
          obtain ⟨d, hd, rd'⟩ := rr.get' hv
          have hd' : d ∈ x :: rest := List.mem_of_getElem? hd
          have e : m = rest.foldl (fun a b => if ltb b a then b else a) x := (Option.some.inj e).symm
          have I' : Inv X pins σ H { s with heap := h', toks := tk } := I.kept kp
          obtain ⟨as', rr2⟩ := Dp.reads I' _ v u (dp_of sF NEST d (pls_mem f2 d hd') rd') ru
          have q := SeqAt.plain_unique _ _ _ _ _ (plain_toP _ _ (pls_mem f2 d hd')).1 rr2 rds
          rw [minD_toP] at q
          have q := toP_inj NEST d _ (pls_mem f2 d hd') (pls_mem f2 _ (min_mem rest x)) q
          rw [← e] at q
          subst q
          exact ⟨v, H, I', ru, okW.d o sF rd'⟩
    · exact o.elim
  · exact o.elim
theorem each_of (I : Inv X pins σ H s) (sF : Same F H) : ∀ {ds : List D} {vs : List V} {us : List Value}, D.pls NEST ds = true → Reps (gx X) F ds vs → Vals vs us →
    PySem.W.EachIs (fun u d => ∃ v, RelV v u ∧ Rep (gx X) F d v) us ds ∧ PySem.W.EachIs (fun u d => ∃ as, Reads s.heap u (D.toP d) as) us ds
  | [], vs, us, _, h, r => by
    rw [show vs = [] from h] at r
    cases r
    exact ⟨.nil, .nil⟩
  | d :: ds, vs, us, p, h, r => by
    have p : D.pl NEST d = true ∧ D.pls NEST ds = true := by simpa [D.pls] using p
    obtain ⟨v, w, rfl, h1, h2⟩ := h
    cases r with
    | cons r1 r2 =>
      obtain ⟨q1, q2⟩ := each_of I sF p.2 h2 r2
      exact ⟨.cons ⟨v, r1, h1⟩ q1, .cons (Dp.reads I _ v _ (dp_of sF NEST d p.1 h1) r1) q2⟩
theorem each_back : ∀ {us : List Value} {ds : List D}, PySem.W.EachIs (fun u d => ∃ v, RelV v u ∧ Rep G F d v) us ds → ∃ vs, Vals vs us ∧ Reps G F ds vs
  | _, _, .nil => ⟨[], .nil, rfl⟩
  | _, _, .cons ⟨v, r, h⟩ e => by
    obtain ⟨vs, r2, h2⟩ := each_back e
    exact ⟨v :: vs, .cons r r2, v, vs, rfl, h, h2⟩
theorem dataLe_leb : PySem.W.dataLe false D.toP = leb := by
  rw [PySem.W.dataLe_eq]
  funext a b
  rfl
theorem keys_rep : ∀ {kvs : List (Key × D)} {us : List (Key × V)}, RepKs G F kvs us → Reps G F (kvs.map fun kv => kD kv.1) (us.map fun kv => kV kv.1)
  | [], us, h => by rw [show us = [] from h]; rfl
  | (k, d) :: r, us, h => by
    obtain ⟨v, w, rfl, _, h2⟩ := h
    refine ⟨kV k, _, rfl, ?_, keys_rep h2⟩
    cases k <;> rfl
theorem reps_strs6 {G : Gx} {F : Hp} : ∀ ys : List Str, Reps G F (ys.map D.str) (ys.map V.str)
  | [] => rfl
  | y :: ys => ⟨.str y, _, rfl, rfl, reps_strs6 ys⟩
theorem str_keys {G : Gx} {F : Hp} : ∀ {kvs : List (Key × D)} {us : List (Key × V)} {ks : List Str}, strs? (kvs.map fun kv => kD kv.1) = some ks → RepKs G F kvs us → us.map (·.1) = ks.map Sum.inr
  | [], us, ks, e, h => by
    rw [show us = [] from h]
    cases e
    rfl
  | (k, d) :: r, us, ks, e, h => by
    obtain ⟨v, w, ew, _, h2⟩ := h
    subst ew
    cases k with
    | inl i => simp [kD, strs?] at e
    | inr z =>
      simp only [List.map_cons, kD, strs?, Option.map_eq_some_iff] at e
      obtain ⟨l, e1, rfl⟩ := e
      rw [List.map_cons, List.map_cons, str_keys e1 h2]
theorem bi_sorted (hc : X.calm = true) (hu : X.A.units + 64 < cLine) : CallR X (.builtin "sorted") (rBi (gx X) sortedEv) := by
  intro pins s σ H xs us Q I r h
  obtain ⟨F, ds, sF, b, o⟩ := h
  unfold sortedEv at o
  split at o
  · rename_i ds
    split at o
    · rename_i so
      obtain ⟨f1, f2, f3, f4, f5⟩ := sort_facts so
      obtain ⟨v, rfl, bv⟩ := br1 b
      obtain ⟨p, vs, rfl, hp, rr⟩ := bv
      rw [Vals.ref1 r]
      obtain ⟨its, rv, hl, hz⟩ := I.list (xs := vs) (.inl hp)
      obtain ⟨e1, e2⟩ := each_of I sF f2 rr rv
      have hn : NEST = 20 := rfl
      refine PySem.W.sorted_data (enc := D.toP) hl.isList e1 e2 (fun a ha b hb => ?_) f4 (sizes f1) (fun d hd => ?_) fun out lo eo => ?_
      · obtain ⟨a', ha', rfl⟩ := List.mem_map.mp ha
        obtain ⟨b', hb', rfl⟩ := List.mem_map.mp hb
        exact f3 a' ha' b' hb'
      · have := (plain_toP NEST d (pls_mem f2 d hd)).2
        omega
      · obtain ⟨vs', rv', rr'⟩ := each_back eo
        rw [dataLe_leb] at rr'
        obtain ⟨ep, he'⟩ := PyProof.Rows.sortedAll_at s.heap its out.toArray
        refine ⟨.ref _, upd H (s.heap.objs.size + 1) (.lst vs'), I.laid (t' := s.toks) (fun _ _ => PyProof.Rows.sortedAll_old) (Nat.le_succ _) ⟨?_, out, ep, rv', he'⟩, rfl, okW.fl o sF rr' (I.hok.fresh (Nat.le_succ _))⟩
        rw [rv'.length, lo]
        exact sizes f1
    · exact o.elim
  · rename_i ds
    split at o
    · rename_i so
      obtain ⟨f1, f2, f3, f4, f5⟩ := sort_facts so
      obtain ⟨v, rfl, bv⟩ := br1 b
      obtain ⟨p, vs, rfl, hp, rr⟩ := bv
      rw [Vals.ref1 r]
      obtain ⟨its, rv, hl, hz⟩ := I.tuple (xs := vs) (.inl (rd_mono sF hp))
      obtain ⟨e1, e2⟩ := each_of I sF f2 rr rv
      have hn : NEST = 20 := rfl
      refine sorted_tup_data (enc := D.toP) hl e1 e2 (fun a ha b hb => ?_) f4 (sizes f1) (fun d hd => ?_) fun out lo eo => ?_
      · obtain ⟨a', ha', rfl⟩ := List.mem_map.mp ha
        obtain ⟨b', hb', rfl⟩ := List.mem_map.mp hb
        exact f3 a' ha' b' hb'
      · have := (plain_toP NEST d (pls_mem f2 d hd)).2
        omega
      · obtain ⟨vs', rv', rr'⟩ := each_back eo
        rw [dataLe_leb] at rr'
        obtain ⟨ep, he'⟩ := PyProof.Rows.sortedAll_at s.heap its out.toArray
        refine ⟨.ref _, upd H (s.heap.objs.size + 1) (.lst vs'), I.laid (t' := s.toks) (fun _ _ => PyProof.Rows.sortedAll_old) (Nat.le_succ _) ⟨?_, out, ep, rv', he'⟩, rfl, okW.fl o sF rr' (I.hok.fresh (Nat.le_succ _))⟩
        rw [rv'.length, lo]
        exact sizes f1
    · exact o.elim
  · rename_i kvs
    obtain ⟨ks, ek, o⟩ := (Out.bind o).of
    split at o
    · rename_i h60
      obtain ⟨v, rfl, bv⟩ := br1 b
      obtain ⟨p, vs, rfl, hp, rr⟩ := bv
      refine call_sortedD hc pins s σ H _ us Q I r ⟨p, vs, ks, rfl, hp, str_keys ek rr, by omega, fun ys q pm so nq => ?_⟩
      rw [sortedS_eq pm so]
      exact okW.fl o sF (reps_strs6 _) nq
    · exact o.elim
  · exact o.elim
theorem bi_list (hc : X.calm = true) : CallR X (.type "list") (rBi (gx X) listEv) := by
  intro pins s σ H xs us Q I r h
  obtain ⟨F, ds, sF, b, o⟩ := h
  unfold listEv at o
  split at o
  · obtain ⟨v, rfl, bv⟩ := br1 b
    obtain ⟨p, vs, rfl, hp, rr⟩ := bv
    exact call_list_of pins s σ H _ us Q I r ⟨p, vs, rfl, .inl (.inl hp), fun l nl => okW.fl o sF rr nl⟩
  · obtain ⟨v, rfl, bv⟩ := br1 b
    obtain ⟨p, vs, rfl, hp, rr⟩ := bv
    exact call_list_of pins s σ H _ us Q I r ⟨p, vs, rfl, .inr (.inl (rd_mono sF hp)), fun l nl => okW.fl o sF rr nl⟩
  · obtain ⟨v, rfl, bv⟩ := br1 b
    obtain ⟨p, vs, rfl, hp, rr⟩ := bv
    refine call_listD hc pins s σ H _ us Q I r ⟨p, vs, rfl, hp, fun l nl => okW.fl o sF ?_ nl⟩
    exact keys_rep rr
  · exact o.elim
end
end G81
end
section
set_option Elab.async false
set_option linter.all false
set_option maxHeartbeats 4000000
namespace G81
open PySem PySem.Spec L2
section
variable {G : Gx} {F F' F2 H H' H2 : Hp} {Q : VK} {Wx : WX}
theorem okW.ext {w : W} (k : okW G F H Q w) (E : Ext F H F2 H2) : okW G F2 H2 Q w := fun F' H' v E' h => k F' H' v (E.trans E') (h.back E.hh)
def Nox {α : Type} (r : R α) : Prop := ∀ c, r ≠ .exc c
theorem Out.nox {α : Type} {r : R α} {ok : α → Prop} {thr thr' : Str → Prop} (h : Out r ok thr) (n : Nox r) : Out r ok thr' := by
  cases r with
  | ok a => exact h
  | exc c => exact absurd rfl (n c)
  | stuck => exact h
theorem nox_ok {α : Type} {a : α} : Nox (.ok a) := fun c h => by cases h
theorem nox_stuck {α : Type} : Nox (.stuck : R α) := fun c h => by cases h
theorem nox_map {α β : Type} {f : α → β} {r : R α} (h : Nox r) : Nox (r.map f) := fun c e => by
  cases r with
  | ok a => cases e
  | exc d => exact h d rfl
  | stuck => cases e
theorem nox_of {α : Type} {o : Option α} : Nox (R.of o) := fun c e => by cases o <;> cases e
theorem nox_bind {α β : Type} {f : α → R β} {r : R α} (h : Nox r) (h' : ∀ a, Nox (f a)) : Nox (r.bind f) := fun c e => by
  cases r with
  | ok a => exact h' a c e
  | exc d => exact h d rfl
  | stuck => cases e
theorem nox_ite {α : Type} {p : Prop} [Decidable p] {r r' : R α} (h : Nox r) (h' : Nox r') : Nox (if p then r else r') := by split <;> assumption
theorem nox_bin (op : Operator) (a b : D) : Nox (binEv op a b) := by
  cases op <;> first | exact nox_stuck | skip
  all_goals
    first
      | (show Nox (addEv a b); unfold addEv)
      | (show Nox (subEv a b); unfold subEv)
      | (show Nox (mulEv a b); unfold mulEv)
      | (show Nox (fdivEv a b); unfold fdivEv)
      | (show Nox (modEv a b); unfold modEv)
      | (show Nox (powEv a b); unfold powEv)
    split <;> first | exact nox_ok | exact nox_stuck | exact nox_ite nox_ok nox_stuck
theorem nox_dic (a b : D) : Nox (dicR a b) := by
  unfold dicR
  split
  · exact nox_ite nox_ok (nox_ite nox_ok nox_stuck)
  · exact nox_ite nox_stuck nox_ok
  · exact nox_stuck
theorem nox_eq (a b : D) : Nox (eqR a b) := nox_ite nox_ok (nox_dic _ _)
theorem nox_in (a : D) (b : List D) : Nox (inR a b) := nox_ite nox_ok nox_stuck
theorem nox_ord (f : Int → Int → Bool) (a b : D) : Nox (ordR f a b) := by
  unfold ordR
  split
  · exact nox_ok
  · exact nox_stuck
theorem nox_is (a b : D) : Nox (isR a b) := by
  unfold isR
  split
  · split <;> exact nox_ok
  · split
    · exact nox_ok
    · exact nox_stuck
  · exact nox_stuck
theorem nox_mem (a b : D) : Nox (memR a b) := by
  unfold memR
  split
  · exact nox_in _ _
  · exact nox_in _ _
  · split
    · exact nox_ite nox_ok nox_stuck
    · exact nox_stuck
  · split
    · exact nox_ok
    · exact nox_stuck
  · exact nox_stuck
theorem nox_cmp (op : CmpOp) (a b : D) : Nox (cmpEv op a b) := by
  cases op
  · exact nox_eq _ _
  · exact nox_map (nox_eq _ _)
  · exact nox_ord _ _ _
  · exact nox_ord _ _ _
  · exact nox_ord _ _ _
  · exact nox_ord _ _ _
  · exact nox_is _ _
  · exact nox_map (nox_is _ _)
  · exact nox_mem _ _
  · exact nox_map (nox_mem _ _)
theorem nox_ix (a i : D) : Nox (ixEv a i) := by
  unfold ixEv
  split
  · exact nox_of
  · exact nox_of
  · exact nox_ite (nox_map nox_of) nox_stuck
  · exact nox_bind nox_of fun _ => nox_of
  · exact nox_stuck
theorem nox_sl (a : D) (l h : Option Int) : Nox (slEv a l h) := by
  unfold slEv
  split
  · exact nox_ok
  · exact nox_ok
  · exact nox_ite nox_ok nox_stuck
  · exact nox_stuck
theorem nox_isi (a : D) (t : Ty) : Nox (isiEv a t) := nox_ite nox_ok nox_stuck
theorem nox_bi (b : Bi) (as : List D) : Nox (biEv b as) := by
  cases b
  all_goals
    first
      | (show Nox (lenEv as); unfold lenEv)
      | (show Nox (maxEv as); unfold maxEv)
      | (show Nox (minEv as); unfold minEv)
      | (show Nox (maxdEv as); unfold maxdEv)
      | (show Nox (absEv as); unfold absEv)
      | (show Nox (intEv as); unfold intEv)
      | (show Nox (strEv as); unfold strEv)
      | (show Nox (sumEv as); unfold sumEv)
      | (show Nox (anyEv as); unfold anyEv)
      | (show Nox (allEv as); unfold allEv)
      | (show Nox (sortedEv as); unfold sortedEv)
      | (show Nox (listEv as); unfold listEv)
      | (show Nox (tupleEv as); unfold tupleEv)
      | (show Nox (dictEv as); unfold dictEv)
      | (show Nox (lensetEv as); unfold lensetEv)
      | (show Nox (sortedsetEv as); unfold sortedsetEv)
      | (show Nox (listrangeEv as); unfold listrangeEv)
      | (show Nox (listitemsEv as); unfold listitemsEv)
  all_goals
    repeat' first
      | exact nox_stuck
      | exact nox_ok
      | exact nox_of
      | exact nox_map nox_of
      | split
      | (refine nox_bind nox_of fun _ => ?_)
theorem nox_me (m : Me) (r : D) (as : List D) : Nox (meEv m r as) := by
  cases m
  all_goals
    first
      | (show Nox (indexEv r as); unfold indexEv)
      | (show Nox (countEv r as); unfold countEv)
      | (show Nox (getEv r as); unfold getEv)
      | (show Nox (joinEv r as); unfold joinEv)
      | (show Nox (splitEv r as); unfold splitEv)
      | (show Nox (partEv r as); unfold partEv)
  all_goals
    repeat' first
      | exact nox_stuck
      | exact nox_ok
      | exact nox_of
      | exact nox_map nox_of
      | split
      | (refine nox_bind nox_of fun _ => ?_)
end

section
variable {X : Cx} {Wx : WX} {a b c e : Expr} {pos : Pos} {fa fb fc : En → R D} {la lb lc : En → Bool}
/-- two operands, then an operator -/
theorem two {g : D → D → R W} {r : R2} (hg : ∀ u v, Nox (g u v)) (hr : ∀ x y H Q, rD2 (gx X) g x y H Q → r x y H Q) {σ : St} {H : Hp} {Q : VK}
    (h : tD (gx X) Wx (fun ρ => (fa ρ).bind fun u => (fb ρ).bind fun v => g u v) σ H Q) : tOp r (tBo (gx X) Wx fa la) (tBo (gx X) Wx fb lb) σ H Q := by
  obtain ⟨F0, H0, F, ρ, R, o⟩ := h
  refine ⟨F0, H0, F, ρ, R, o.bind.imp (fun u _ o2 => ?_) (fun _ h => h)⟩
  intro F1 H1 x E1 bx _
  refine ⟨F0, H0, F1, ρ, R.ext E1, (Out.bind o2).imp (fun v _ o4 => ?_) (fun _ h => h.ext E1)⟩
  intro F2 H2 y E2 by2 _
  exact hr _ _ _ _ ⟨F2, u, v, E2.fh, bx.mono E2.ff E2.hh, by2, (Out.nox o4 (hg u v)).imp (fun w _ k => k.ext (E1.trans E2)) fun _ h => h⟩
theorem d_bin (op : Operator) (ha : PE X a (tBo (gx X) Wx fa la)) (hb : PE X b (tBo (gx X) Wx fb lb)) :
    PE X (.BinOp a op b pos) (tD (gx X) Wx fun ρ => (fa ρ).bind fun u => (fb ρ).bind fun v => binEv op u v) :=
  PE_imp (pe_op (bin_ok op) ha hb) fun σ H Q h => two (nox_bin op) (fun _ _ _ _ q => q) h
/-- a comparison's answer as a value -/
theorem rC_rD {g : D → D → R Bool} {x y : V} {H : Hp} {Q : VK} (h : rD2 (gx X) (fun u v => (g u v).map boolW) x y H Q) : rC2 (gx X) g x y H Q := by
  obtain ⟨F, u, v, s, b1, b2, o⟩ := h
  exact ⟨F, u, v, s, b1, b2, (Out.map o).imp (fun k _ q => okW.scal q s fun _ => rfl) fun _ h => h⟩
theorem d_cmp (hu : X.A.units + 64 < cLine) (op : CmpOp) (hm : behindInMarks op b = false) (ha : PE X a (tBo (gx X) Wx fa la)) (hb : PE X b (tBo (gx X) Wx fb lb)) :
    PE X (.Compare a [op] [b] pos) (tD (gx X) Wx fun ρ => (fa ρ).bind fun u => (fb ρ).bind fun v => (cmpEv op u v).map boolW) :=
  PE_imp (pe_cmpR (cmp_ok hu op) ha hb hm) fun σ H Q h => two (fun u v => nox_map (nox_cmp op u v)) (fun _ _ _ _ q => rC_rD q) h
/-- an evaluation's truth, of a comparison's tree -/
theorem tru_D {f : En → R W} {σ : St} {H : Hp} {Q : Bool → Hp → Prop} (h : tTt (gx X) Wx (fun ρ => tru (f ρ)) σ H Q) : tD (gx X) Wx f σ H (fun x H' => ∃ k, x = .bl k ∧ Q k H') := by
  obtain ⟨F0, H0, F, ρ, R, o⟩ := h
  refine ⟨F0, H0, F, ρ, R, ?_⟩
  dsimp only at o
  cases e : f ρ with
  | ok w =>
    rw [e] at o
    cases w with
    | d x =>
      cases x with
      | bl k =>
        intro F' H' v E wr
        exact ⟨k, wr, o F' H' E⟩
      | _ => exact (show False from o).elim
    | _ => exact (show False from o).elim
  | exc c => rw [e] at o; exact o
  | stuck => rw [e] at o; exact o
theorem t_cmp (hu : X.A.units + 64 < cLine) (op : CmpOp) (hm : behindInMarks op b = false) (ha : PE X a (tBo (gx X) Wx fa la)) (hb : PE X b (tBo (gx X) Wx fb lb)) :
    PT X (.Compare a [op] [b] pos) (tTt (gx X) Wx fun ρ => tru ((fa ρ).bind fun u => (fb ρ).bind fun v => (cmpEv op u v).map boolW)) :=
  PT_imp (pt_cmpR (cmp_ok hu op) ha hb hm) fun σ H Q h => two (fun u v => nox_map (nox_cmp op u v)) (fun _ _ _ _ q => rC_rD q) (tru_D h)
theorem three (hu : X.A.units + 64 < cLine) {op op' : CmpOp} {σ : St} {H : Hp} {Q : VK}
    (h : tD (gx X) Wx (fun ρ => (fa ρ).bind fun u => (fb ρ).bind fun v => (cmpEv op u v).bind fun k => if k = true then (fc ρ).bind fun z => (cmpEv op' v z).map boolW else .ok (boolW false)) σ H Q) :
    tChain (rC2 (gx X) (cmpEv op)) (rC2 (gx X) (cmpEv op')) (tBo (gx X) Wx fa la) (tBo (gx X) Wx fb lb) (tBo (gx X) Wx fc lc) σ H Q := by
  obtain ⟨F0, H0, F, ρ, R, o⟩ := h
  refine ⟨F0, H0, F, ρ, R, o.bind.imp (fun u _ o2 => ?_) (fun _ h => h)⟩
  intro F1 H1 x E1 bx _
  refine ⟨F0, H0, F1, ρ, R.ext E1, (Out.bind o2).imp (fun v _ o4 => ?_) (fun _ h => h.ext E1)⟩
  intro F2 H2 y E2 by2 _
  refine ⟨F2, u, v, E2.fh, bx.mono E2.ff E2.hh, by2, (Out.nox (Out.bind o4) (nox_cmp op u v)).imp (fun k _ o5 => ?_) fun _ h => h⟩
  refine ⟨k, rfl, ?_⟩
  cases k with
  | false =>
    exact okW.scal (okW.ext (show okW (gx X) F H Q (boolW false) from o5) (E1.trans E2)) E2.fh fun _ => rfl
  | true =>
    have o6 : Out ((fc ρ).bind fun z => (cmpEv op' v z).map boolW) (okW (gx X) F H Q) (fun c => Thr (gx X) Wx c F σ H) := o5
    refine ⟨F0, H0, F2, ρ, (R.ext E1).ext E2, o6.bind.imp (fun z _ o7 => ?_) (fun _ h => (h.ext E1).ext E2)⟩
    intro F3 H3 w E3 bz _
    have o8 := Out.nox (Out.map o7) (thr' := fun _ => False) (nox_cmp op' v z)
    exact ⟨F3, v, z, E3.fh, by2.mono E3.ff E3.hh, bz, o8.imp (fun k _ q => okW.scal (okW.ext q ((E1.trans E2).trans E3)) E3.fh fun _ => rfl) fun _ h => h⟩
theorem d_chain (hu : X.A.units + 64 < cLine) (op op' : CmpOp) (hm : lastMarks [op, op'] [b, c] = false) (ha : PE X a (tBo (gx X) Wx fa la)) (hb : PE X b (tBo (gx X) Wx fb lb)) (hc : PE X c (tBo (gx X) Wx fc lc)) :
    PE X (.Compare a [op, op'] [b, c] pos) (tD (gx X) Wx fun ρ => (fa ρ).bind fun u => (fb ρ).bind fun v => (cmpEv op u v).bind fun k => if k = true then (fc ρ).bind fun z => (cmpEv op' v z).map boolW else .ok (boolW false)) :=
  PE_imp (pe_chain (cmp_ok hu op) (cmp_ok hu op') ha hb hc hm) fun σ H Q h => three hu h
theorem t_chain (hu : X.A.units + 64 < cLine) (op op' : CmpOp) (hm : lastMarks [op, op'] [b, c] = false) (ha : PE X a (tBo (gx X) Wx fa la)) (hb : PE X b (tBo (gx X) Wx fb lb)) (hc : PE X c (tBo (gx X) Wx fc lc)) :
    PT X (.Compare a [op, op'] [b, c] pos) (tTt (gx X) Wx fun ρ => tru ((fa ρ).bind fun u => (fb ρ).bind fun v => (cmpEv op u v).bind fun k => if k = true then (fc ρ).bind fun z => (cmpEv op' v z).map boolW else .ok (boolW false))) :=
  PT_imp (pt_chain (cmp_ok hu op) (cmp_ok hu op') ha hb hc hm) fun σ H Q h => three hu (tru_D h)
theorem d_ix (hu : X.A.units + 64 < cLine) (hs : PlainIx b) (ha : PE X a (tBo (gx X) Wx fa la)) (hb : PE X b (tBo (gx X) Wx fb lb)) :
    PE X (.Subscript a b pos) (tD (gx X) Wx fun ρ => (fa ρ).bind fun u => (fb ρ).bind fun v => (ixEv u v).map .d) :=
  PE_imp (pe_ix (ix_ok hu) ha hb hs) fun σ H Q h => two (fun u v => nox_map (nox_ix u v)) (fun _ _ _ _ q => q) h
theorem int_B {f : En → R D} {l : En → Bool} {σ : St} {H : Hp} {Q : Int → Hp → Prop} (h : ∃ F0 H0 F ρ, Rel (gx X) F0 H0 ρ F σ H ∧ Out (okInt (f ρ)) (fun i => ∀ F' H', Ext F H F' H' → Q i H') (fun c => Thr (gx X) Wx c F σ H)) :
    tBo (gx X) Wx f l σ H (fun x H' => ∃ i, x = .int i ∧ Q i H') := by
  obtain ⟨F0, H0, F, ρ, R, o⟩ := h
  refine ⟨F0, H0, F, ρ, R, ?_⟩
  cases e : f ρ with
  | ok w =>
    rw [e] at o
    cases w with
    | int i =>
      intro F' H' v E b _
      exact ⟨i, b, o F' H' E⟩
    | _ => exact (show False from o).elim
  | exc c => rw [e] at o; exact o
  | stuck => rw [e] at o; exact o
theorem d_neg (ha : PE X a (tBo (gx X) Wx fa la)) : PE X (.UnaryOp .USub a pos) (tD (gx X) Wx fun ρ => (okInt (fa ρ)).map fun i => .d (.int (-i))) :=
  PE_imp (pe_un un_neg ha) fun σ H Q ⟨F0, H0, F, ρ, R, o⟩ =>
    int_B (X := X) (l := la) (Q := fun i H' => Q (.int (-i)) H') ⟨F0, H0, F, ρ, R, (Out.map o).imp (fun i _ k F' H' E => okW.scal (k.ext E) E.fh fun _ => rfl) fun _ h => h⟩
theorem o_none : PO X none (tOs (gx X) Wx fun _ => .ok none) := PO_imp po_none fun σ H Q ⟨F0, H0, F, ρ, R, o⟩ => o F H (Ext.refl R.fh)
theorem o_some (ha : PE X a (tBo (gx X) Wx fa la)) : PO X (some a) (tOs (gx X) Wx fun ρ => (okInt (fa ρ)).map some) :=
  PO_imp (po_some ha) fun σ H Q ⟨F0, H0, F, ρ, R, o⟩ => int_B (X := X) (l := la) (Q := fun i H' => Q (some i) H') ⟨F0, H0, F, ρ, R, Out.map o⟩
theorem d_sl {lo hi : Option Expr} {fl fh : En → R (Option Int)} {p2 : Pos} (ha : PE X a (tBo (gx X) Wx fa la)) (hl : PO X lo (tOs (gx X) Wx fl)) (hh : PO X hi (tOs (gx X) Wx fh)) :
    PE X (.Subscript a (.Slice lo hi none p2) pos) (tD (gx X) Wx fun ρ => (fa ρ).bind fun u => (fl ρ).bind fun l => (fh ρ).bind fun h => slEv u l h) :=
  PE_imp (pe_slice sl_ok ha hl hh) fun σ H Q ⟨F0, H0, F, ρ, R, o⟩ => by
    refine ⟨F0, H0, F, ρ, R, o.bind.imp (fun u _ o2 => ?_) (fun _ h => h)⟩
    intro F1 H1 x E1 bx _
    refine ⟨F0, H0, F1, ρ, R.ext E1, (Out.bind o2).imp (fun l _ o3 => ?_) (fun _ h => h.ext E1)⟩
    intro F2 H2 E2
    refine ⟨F0, H0, F2, ρ, (R.ext E1).ext E2, (Out.bind o3).imp (fun h _ o4 => ?_) (fun _ h => (h.ext E1).ext E2)⟩
    intro F3 H3 E3
    have E23 := E2.trans E3
    exact ⟨F3, u, E3.fh, bx.mono E23.ff E23.hh, (Out.nox o4 (nox_sl u l h)).imp (fun w _ k => k.ext (E1.trans E23)) fun _ h => h⟩

theorem nox_rev (d : D) : Nox (revEv d) := by
  unfold revEv
  split
  · exact nox_ok
  · exact nox_stuck
theorem d_rev {kk : Nat} {p1 p2 p3 : Pos} (ha : PE X a (tBo (gx X) Wx fa la)) :
    PE X (.Subscript a (.Slice none none (some (.UnaryOp .USub (.Constant (.int 1) kk p1) p2)) p3) pos) (tD (gx X) Wx fun ρ => (fa ρ).bind revEv) :=
  PE_imp (pe_revL ha) fun σ H Q ⟨F0, H0, F, ρ, R, o⟩ => by
    refine ⟨F0, H0, F, ρ, R, o.bind.imp (fun u _ o2 => ?_) (fun _ h => h)⟩
    intro F1 H1 x E1 bx _
    have o3 : ans (gx X) F1 H1 Q (revEv u) := (Out.nox o2 (nox_rev u)).imp (fun w _ k => k.ext E1) fun _ h => h
    cases u with
    | lst ds =>
      obtain ⟨p, vs, rfl, hp, r⟩ := bx
      exact ⟨p, vs, rfl, .inl hp, fun q nq => okW.fl o3 E1.fh r.reverse nq⟩
    | _ => exact o3.elim

variable {ga gb gc : En → R W} {ba bb bc : En → R Bool}
theorem t_val {f : En → R W} (he : ∀ whole, isTrue a X.env whole = (do let v ← whole; standAt a.pos; holding [v] (truthy v))) (h : PE X a (tD (gx X) Wx f)) : PT X a (tTt (gx X) Wx fun ρ => tru (f ρ)) :=
  PT_imp (pt_val h he) fun σ H Q h => tru_D h
theorem d_not (ha : PE X a (tD (gx X) Wx ga)) : PE X (.UnaryOp .Not a pos) (tD (gx X) Wx fun ρ => (tru (ga ρ)).map fun b => boolW (!b)) :=
  PE_imp (pe_not ha) fun σ H Q ⟨F0, H0, F, ρ, R, o⟩ =>
    tru_D (X := X) (f := ga) (Q := fun k H' => Q (.bl (!k)) H') ⟨F0, H0, F, ρ, R, (Out.map o).imp (fun k _ q F' H' E => okW.scal (q.ext E) E.fh fun _ => rfl) fun _ h => h⟩
theorem tru_map {r : R Bool} : tru (r.map boolW) = r := by cases r <;> rfl
theorem t_not (ha : PT X a (tTt (gx X) Wx ba)) : PT X (.UnaryOp .Not a pos) (tTt (gx X) Wx fun ρ => (ba ρ).map fun b => !b) :=
  PT_imp (pt_not ha) fun σ H Q ⟨F0, H0, F, ρ, R, o⟩ => ⟨F0, H0, F, ρ, R, Out.map o⟩
theorem d_if (hc : PT X c (tTt (gx X) Wx bc)) (ha : PE X a (tD (gx X) Wx ga)) (hb : PE X b (tD (gx X) Wx gb)) :
    PE X (.IfExp c a b pos) (tD (gx X) Wx fun ρ => (bc ρ).bind fun k => if k = true then ga ρ else gb ρ) :=
  PE_imp (pe_ifExp hc ha hb) fun σ H Q ⟨F0, H0, F, ρ, R, o⟩ => by
    refine ⟨F0, H0, F, ρ, R, o.bind.imp (fun k _ o2 => ?_) (fun _ h => h)⟩
    intro F1 H1 E1
    cases k with
    | true => exact ⟨F0, H0, F1, ρ, R.ext E1, Out.imp (show Out (ga ρ) _ _ from o2) (fun w _ q => q.ext E1) fun _ h => h.ext E1⟩
    | false => exact ⟨F0, H0, F1, ρ, R.ext E1, Out.imp (show Out (gb ρ) _ _ from o2) (fun w _ q => q.ext E1) fun _ h => h.ext E1⟩
theorem d_and {y : Expr} {rest : List Expr} (ha : PE X a (tD (gx X) Wx ga)) (hb : PE X (.BoolOp .And (y :: rest) pos) (tD (gx X) Wx fun ρ => (tru (gb ρ)).map boolW)) :
    PE X (.BoolOp .And (a :: y :: rest) pos) (tD (gx X) Wx fun ρ => (tru (ga ρ)).bind fun k => if k = true then (tru (gb ρ)).map boolW else .ok (boolW false)) :=
  PE_imp (pe_and ha hb) fun σ H Q ⟨F0, H0, F, ρ, R, o⟩ => by
    refine tru_D (X := X) (f := ga) (Q := fun k H' => if k = true then tD (gx X) Wx (fun ρ => (tru (gb ρ)).map boolW) σ H' Q else Q (.bl false) H') ⟨F0, H0, F, ρ, R, o.bind.imp (fun k _ o2 => ?_) (fun _ h => h)⟩
    intro F1 H1 E1
    cases k with
    | true => exact ⟨F0, H0, F1, ρ, R.ext E1, Out.imp (show Out ((tru (gb ρ)).map boolW) _ _ from o2) (fun w _ q => q.ext E1) fun _ h => h.ext E1⟩
    | false => exact okW.scal (okW.ext (show okW (gx X) F H Q (boolW false) from o2) E1) E1.fh fun _ => rfl
theorem d_or {y : Expr} {rest : List Expr} (ha : PE X a (tD (gx X) Wx ga)) (hb : PE X (.BoolOp .Or (y :: rest) pos) (tD (gx X) Wx fun ρ => (tru (gb ρ)).map boolW)) :
    PE X (.BoolOp .Or (a :: y :: rest) pos) (tD (gx X) Wx fun ρ => (tru (ga ρ)).bind fun k => if k = true then .ok (boolW true) else (tru (gb ρ)).map boolW) :=
  PE_imp (pe_or ha hb) fun σ H Q ⟨F0, H0, F, ρ, R, o⟩ => by
    refine tru_D (X := X) (f := ga) (Q := fun k H' => if k = true then Q (.bl true) H' else tD (gx X) Wx (fun ρ => (tru (gb ρ)).map boolW) σ H' Q) ⟨F0, H0, F, ρ, R, o.bind.imp (fun k _ o2 => ?_) (fun _ h => h)⟩
    intro F1 H1 E1
    cases k with
    | false => exact ⟨F0, H0, F1, ρ, R.ext E1, Out.imp (show Out ((tru (gb ρ)).map boolW) _ _ from o2) (fun w _ q => q.ext E1) fun _ h => h.ext E1⟩
    | true => exact okW.scal (okW.ext (show okW (gx X) F H Q (boolW true) from o2) E1) E1.fh fun _ => rfl
theorem w_and {y : Expr} {rest : List Expr} (ha : PT X a (tTt (gx X) Wx ba)) (hb : PW X (.BoolOp .And (y :: rest) pos) (tTt (gx X) Wx bb)) :
    PW X (.BoolOp .And (a :: y :: rest) pos) (tTt (gx X) Wx fun ρ => (ba ρ).bind fun k => if k = true then bb ρ else .ok false) :=
  PW_imp (pw_and ha hb) fun σ H Q ⟨F0, H0, F, ρ, R, o⟩ => by
    refine ⟨F0, H0, F, ρ, R, o.bind.imp (fun k _ o2 => ?_) (fun _ h => h)⟩
    intro F1 H1 E1
    cases k with
    | true => exact ⟨F0, H0, F1, ρ, R.ext E1, Out.imp (show Out (bb ρ) _ _ from o2) (fun w _ q F' H' E => q F' H' (E1.trans E)) fun _ h => h.ext E1⟩
    | false => exact (show ∀ F' H', Ext F H F' H' → Q false H' from o2) F1 H1 E1
theorem w_or {y : Expr} {rest : List Expr} (ha : PT X a (tTt (gx X) Wx ba)) (hb : PW X (.BoolOp .Or (y :: rest) pos) (tTt (gx X) Wx bb)) :
    PW X (.BoolOp .Or (a :: y :: rest) pos) (tTt (gx X) Wx fun ρ => (ba ρ).bind fun k => if k = true then .ok true else bb ρ) :=
  PW_imp (pw_or ha hb) fun σ H Q ⟨F0, H0, F, ρ, R, o⟩ => by
    refine ⟨F0, H0, F, ρ, R, o.bind.imp (fun k _ o2 => ?_) (fun _ h => h)⟩
    intro F1 H1 E1
    cases k with
    | false => exact ⟨F0, H0, F1, ρ, R.ext E1, Out.imp (show Out (bb ρ) _ _ from o2) (fun w _ q F' H' E => q F' H' (E1.trans E)) fun _ h => h.ext E1⟩
    | true => exact (show ∀ F' H', Ext F H F' H' → Q true H' from o2) F1 H1 E1

variable {es : List Expr} {fs : En → R (List D × Bool)} {fv : En → R (List D)}
theorem a_nil : PA X [] (tAs (gx X) Wx fun _ => .ok ([], false)) := PA_imp pa_nil fun σ H Q ⟨F0, H0, F, ρ, R, o⟩ => o F H [] (Ext.refl R.fh) rfl fun _ => rfl
theorem a_cons (hs : starEach (a :: es) X.env = (false, eval a X.env) :: starEach es X.env) (ha : PE X a (tBo (gx X) Wx fa la)) (hr : PA X es (tAs (gx X) Wx fs)) :
    PA X (a :: es) (tAs (gx X) Wx fun ρ => (fa ρ).bind fun d => (fs ρ).map fun ds => (d :: ds.1, la ρ || ds.2)) :=
  PA_imp (pa_cons ha hr hs) fun σ H Q ⟨F0, H0, F, ρ, R, o⟩ => by
    refine ⟨F0, H0, F, ρ, R, o.bind.imp (fun d _ o2 => ?_) (fun _ h => h)⟩
    intro F1 H1 x E1 bx ax
    refine ⟨F0, H0, F1, ρ, R.ext E1, (Out.map o2).imp (fun ds _ o3 => ?_) (fun _ h => h.ext E1)⟩
    intro F2 H2 xs E2 bxs axs
    refine o3 F2 H2 (x :: xs) (E1.trans E2) ⟨x, xs, rfl, bx.mono E2.ff E2.hh, bxs⟩ fun z => ?_
    have z' : la ρ = false ∧ ds.2 = false := by simpa using z
    exact ⟨x, xs, rfl, (ax z'.1).mono E2.ff, axs z'.2⟩
theorem v_nil : PA X [] (tVs (gx X) Wx fun _ => .ok []) := PA_imp pa_nil fun σ H Q ⟨F0, H0, F, ρ, R, o⟩ => o F H [] (Ext.refl R.fh) rfl
theorem v_cons (hs : starEach (a :: es) X.env = (false, eval a X.env) :: starEach es X.env) (ha : PE X a (tD (gx X) Wx ga)) (hr : PA X es (tVs (gx X) Wx fv)) :
    PA X (a :: es) (tVs (gx X) Wx fun ρ => (ga ρ).bind fun w => (fv ρ).map fun ds => w.toD :: ds) :=
  PA_imp (pa_cons ha hr hs) fun σ H Q ⟨F0, H0, F, ρ, R, o⟩ => by
    refine ⟨F0, H0, F, ρ, R, o.bind.imp (fun w _ o2 => ?_) (fun _ h => h)⟩
    intro F1 H1 x E1 wx
    obtain ⟨F1', E1', _, rx⟩ := E1.freeze wx
    refine ⟨F0, H0, F1', ρ, R.ext E1', (Out.map o2).imp (fun ds _ o3 => ?_) (fun _ h => h.ext E1')⟩
    intro F2 H2 xs E2 rxs
    exact o3 F2 H2 (x :: xs) (E1'.trans E2) ⟨x, xs, rfl, rx.mono E2.ff, rxs⟩
theorem d_tup {k : Nat} (hl : ∀ ρ ds, fv ρ = .ok ds → ds.length ≤ SIZE) (h : PA X es (tVs (gx X) Wx fv)) : PE X (.Tuple es k pos) (tD (gx X) Wx fun ρ => (fv ρ).map fun ds => .d (.tup ds)) :=
  PE_imp (pe_tup h) fun σ H Q ⟨F0, H0, F, ρ, R, o⟩ => ⟨F0, H0, F, ρ, R, (Out.map o).imp (fun ds e q F' H' vs E r => ⟨by rw [r.length]; exact sizes (hl ρ ds e), fun p np => (q.ext E).tup E.fh r np⟩) fun _ h => h⟩
theorem d_lst (hl : ∀ ρ ds, fv ρ = .ok ds → ds.length ≤ SIZE) (h : PA X es (tVs (gx X) Wx fv)) : PE X (.List es pos) (tD (gx X) Wx fun ρ => (fv ρ).map .fl) :=
  PE_imp (pe_lst h) fun σ H Q ⟨F0, H0, F, ρ, R, o⟩ => ⟨F0, H0, F, ρ, R, (Out.map o).imp (fun ds e q F' H' vs E r => ⟨by rw [r.length]; exact sizes (hl ρ ds e), fun p np => (q.ext E).fl E.fh r np⟩) fun _ h => h⟩

theorem bor_gen {cc : C} {f : En → R W} (hv : ∀ i, cc ≠ .var i) (hf : ∀ i k, cc ≠ .fld i k) (h : PE X e (tD (gx X) Wx f)) : PE X e (tBo (gx X) Wx (fun ρ => bor cc ρ (f ρ)) (fun ρ => lent cc ρ)) :=
  PE_imp h fun σ H Q ⟨F0, H0, F, ρ, R, o⟩ => by
    have e1 : bor cc ρ (f ρ) = (f ρ).map W.toD := by
      cases cc <;> first | rfl | exact absurd rfl (hv _) | exact absurd rfl (hf _ _)
    refine ⟨F0, H0, F, ρ, R, ?_⟩
    dsimp only at o
    rw [e1] at o
    refine (Out.map o).imp (fun w _ q F' H' v E wr => ?_) fun _ h => h
    obtain ⟨F2, E2, _, r⟩ := E.freeze wr
    exact q F2 H' v E2 (.of E2.fh r) fun _ => r
theorem bor_var {i : Nat} {f : En → R W} (h : PE X e (tVar i)) : PE X e (tBo (gx X) Wx (fun ρ => bor (.var i) ρ (f ρ)) (fun ρ => lent (.var i) ρ)) :=
  PE_imp h fun σ H Q ⟨F0, H0, F, ρ, R, o⟩ => by
    have o : Out (rdB ρ i) (okB (gx X) F H (lent (.var i) ρ) Q) _ := o
    unfold rdB at o
    split at o
    · exact o.elim
    · rename_i d hd
      obtain ⟨v, e1, r⟩ := R.val i d (getD_of hd (by intro z; cases z))
      exact ⟨v, e1, o F H v (Ext.refl R.fh) (.of R.fh r) fun _ => r⟩
    · rename_i ds hd
      obtain ⟨p, vs, e1, _, _, h4, r⟩ := R.ol i ds (getD_of hd (by intro z; cases z))
      have hl : lent (.var i) ρ = true := by unfold lent; dsimp only; rw [hd]
      exact ⟨_, e1, o F H _ (Ext.refl R.fh) ⟨p, vs, rfl, .inl h4, r⟩ fun z => by rw [hl] at z; cases z⟩
    · rename_i ds hd
      obtain ⟨p, vs, e1, _, _, h4, r⟩ := R.od i ds (getD_of hd (by intro z; cases z))
      have hl : lent (.var i) ρ = true := by unfold lent; dsimp only; rw [hd]
      exact ⟨_, e1, o F H _ (Ext.refl R.fh) ⟨p, vs, rfl, .inl h4, r⟩ fun z => by rw [hl] at z; cases z⟩
    · exact o.elim
def fldN : Nat → Str
  | 0 => "held"
  | 1 => "past"
  | _ => "later"
/-- what is known of the class of binders -/
structure BndOk (K : PySem.W.Frag) (mg : Str → Option Value) : Prop where
  ex : ∃ C, mg "Binder" = some (.ref C) ∧ Cls K C ∧ ∀ k, NoAttr K C (fldN k)
theorem fld_look (vh : V) (p l : Addr) : (([("held", vh), ("past", .ref p), ("later", .ref l)] : List (Str × V)).lookup (fldN 0) = some vh ∧ ([("held", vh), ("past", .ref p), ("later", .ref l)] : List (Str × V)).lookup (fldN 1) = some (.ref p)) ∧ ∀ k, ([("held", vh), ("past", .ref p), ("later", .ref l)] : List (Str × V)).lookup (fldN (k + 2)) = some (.ref l) :=
  ⟨⟨rfl, rfl⟩, fun _ => rfl⟩
theorem bor_fld {i k : Nat} {f : En → R W} {pos : Pos} (b : BndOk X.K X.mg) (h : PE X e (tVar i)) (hb : attributeBase e (fldN k) X.env (eval e X.env) = eval e X.env) : PE X (.Attribute e (fldN k) pos) (tBo (gx X) Wx (fun ρ => bor (.fld i k) ρ (f ρ)) (fun ρ => lent (.fld i k) ρ)) :=
  PE_imp (pe_fld h hb) fun σ H Q ⟨F0, H0, F, ρ, R, o⟩ => by
    have o : Out (rdF ρ i k) (okB (gx X) F H (decide (k ≠ 0)) Q) _ := o
    unfold rdF at o
    split at o
    case h_2 => exact o.elim
    rename_i B hd
    obtain ⟨a, p, l, e1, _, at_⟩ := R.obj.at_ i B (getD_of hd (by intro z; cases z))
    obtain ⟨C, dx, vh, m, hi, rh⟩ := at_.ins
    obtain ⟨C', m', c, n⟩ := b.ex
    have m : X.mg "Binder" = some (.ref C) := m
    rw [m] at m'
    cases m'
    obtain ⟨⟨q1, q2⟩, q3⟩ := fld_look vh p l
    match k, o with
    | 0, o => exact ⟨_, e1, a, C, dx, _, vh, rfl, R.h0 _ _ hi, c, n 0, q1, o F H vh (Ext.refl R.fh) (.of R.fh (Rep.mono R.f0 _ rh)) fun _ => Rep.mono R.f0 _ rh⟩
    | 1, o =>
      obtain ⟨vs, g1, g2⟩ := at_.hp
      exact ⟨_, e1, a, C, dx, _, _, rfl, R.h0 _ _ hi, c, n 1, q2, o F H (.ref p) (Ext.refl R.fh) ⟨p, vs, rfl, .inl (R.h0 _ _ g1), g2.mono R.f0⟩ fun z => nomatch z⟩
    | 2, o =>
      obtain ⟨vs, g1, g2⟩ := at_.hl
      exact ⟨_, e1, a, C, dx, _, _, rfl, R.h0 _ _ hi, c, n 2, q3 0, o F H (.ref l) (Ext.refl R.fh) ⟨l, vs, rfl, .inl (R.h0 _ _ g1), g2.mono R.f0⟩ fun z => nomatch z⟩
    | _ + 3, o => exact o.elim
theorem d_fld {i k : Nat} {pos : Pos} (b : BndOk X.K X.mg) (h : PE X e (tVar i)) (hb : attributeBase e (fldN k) X.env (eval e X.env) = eval e X.env) : PE X (.Attribute e (fldN k) pos) (tD (gx X) Wx fun ρ => if k = 0 then (rdF ρ i 0).map .d else .stuck) :=
  PE_imp (bor_fld (Wx := Wx) (k := k) (f := fun _ => .stuck) b h hb) fun σ H Q ⟨F0, H0, F, ρ, R, o⟩ => by
    refine ⟨F0, H0, F, ρ, R, ?_⟩
    dsimp only at o
    by_cases c : k = 0
    · subst c
      rw [if_pos rfl] at o
      exact (Out.map o).imp (fun d _ q F' H' v E _ r => q F' H' v E (r rfl)) fun _ h => h
    · rw [if_neg c] at o
      exact o.elim
theorem d_var {i : Nat} (h : PE X e (tVar i)) : PE X e (tD (gx X) Wx fun ρ => rdV ρ i) :=
  PE_imp h fun σ H Q ⟨F0, H0, F, ρ, R, o⟩ => by
    dsimp only at o
    unfold rdV at o
    split at o
    · rename_i d hd
      obtain ⟨v, e1, r⟩ := R.val i d (getD_of hd (by intro z; cases z))
      exact ⟨v, e1, o F H v (Ext.refl R.fh) r⟩
    · exact o.elim
theorem d_const {d : D} {v : V} (h : PE X e (tC v)) (r : ∀ F, Rep (gx X) F d v) : PE X e (tD (gx X) Wx fun _ => .ok (.d d)) :=
  PE_imp h fun σ H Q ⟨F0, H0, F, ρ, R, o⟩ => okW.scal (show okW (gx X) F H Q (.d d) from o) R.fh r
end
end G81
end
section
set_option Elab.async false
set_option linter.all false
set_option maxHeartbeats 4000000
namespace G81
open PySem PySem.Spec L2
/-- what a def promises: the evaluator's answer -/
def spD (G : Gx) (g : List D → R W) : Sp := fun vs H Q E => ∃ F ds, Same F H ∧ Reps G F ds vs ∧ Out (g ds) (okW G F H Q) (fun c => ∀ F' H' a, G.mg c = some (.ref a) → Ext F H F' H' → E (.ref a) none H')
/-- what a call lets out is taken -/
abbrev Pa (Y : Cx) (Wb : WX) : Prop := ∀ σ, PassesAt (L2N.CX Y.prog Y.w) Y σ (WE Wb σ)
section
variable {X : Cx} {Wx : WX} {a b c e : Expr} {pos : Pos} {es : List Expr} {fs : En → R (List D × Bool)}
theorem d_call {g : List D → R W} {k : Nat} {f : Addr} {fd : FuncData} {ps : List Str} {x : Str} {p : Pos} (Fk : FnOk X.prog X.w X.K X.mg X.base (L2N.CX X.prog X.w) k f fd ps (spD (gx X) g)) (hr : Room k X.A)
    (hg : Gl X x) (hm : X.mg x = some (.ref f)) (hk : PySem.W.keepIn X.K (.ref f) = true) (hb : Binds X.K fd ps []) (pa : Pa X Wx) (ha : PA X (e :: es) (tAs (gx X) Wx fs)) (hdb : (x == ("__debug__" : Str)) = false)
    (he : starEach (e :: es) X.env = (false, eval e X.env) :: starEach es X.env) (hpl : (backTo pos (starEach es X.env)).any (·.1) = false) :
    PE X (.Call (.Name x p) (e :: es) [] pos) (tD (gx X) Wx fun ρ => (fs ρ).bind fun ab => lentR ab.2 (g ab.1)) :=
  PE_imp (pe_callS Fk hr hg hm hk hb pa ha hdb he hpl) fun σ H Q ⟨F0, H0, F, ρ, R, o⟩ => by
    refine ⟨F0, H0, F, ρ, R, o.bind.imp (fun ab _ o2 => ?_) (fun _ h => h)⟩
    intro F1 H1 vs E1 bxs axs
    have o3 := Out.bind (show Out ((g ab.1).bind _) _ _ from o2)
    cases hb2 : ab.2 with
    | false =>
      rw [hb2] at o3
      refine ⟨F1, ab.1, E1.fh, axs hb2, o3.imp (fun w _ q => okW.ext (show okW (gx X) F H Q w from q) E1) fun c h F' H' a e E => h F' H' a e (E1.trans E)⟩
    | true =>
      rw [hb2] at o3
      refine ⟨H1, ab.1, Same.refl _, bxs.all E1.fh, o3.imp (fun w _ q => ?_) fun c h F' H' a e E => h F1 H' a e ⟨E1.ff, E1.hh.trans E.hh, E1.fh.trans E.hh, E1.new⟩⟩
      cases w with
      | d x =>
        by_cases hx : x.scal = true
        · have q : okW (gx X) F H Q (.d x) := by simpa [hx, Out] using q
          intro F2 H2 v E2 r
          exact q F1 H2 v ⟨E1.ff, E1.hh.trans E2.hh, E1.fh.trans E2.hh, E1.new⟩ (Rep.scal (show Rep (gx X) F2 x v from r) hx)
        · have q : False := by simpa [hx, Out] using q
          exact q.elim
      | _ => exact (show False from q).elim
def tCallF (X : Cx) (E : St → XK) (tf : TE) (t : TA) : TE := fun σ H Q => tf σ H fun y H1 => ∃ (f : Addr) (k : Nat) (fd : FuncData) (ps : List Str) (sp : Sp), y = V.ref f ∧ FnOk X.prog X.w X.K X.mg X.base (L2N.CX X.prog X.w) k f fd ps sp ∧ Room k X.A ∧ PySem.W.keepIn X.K (.ref f) = true ∧ Binds X.K fd ps [] ∧
  t σ H1 fun vs H2 => sp vs H2 Q (E σ)
theorem pe_callF {fe : Expr} {tf : TE} {t : TA} {E : St → XK} (hf : PE X fe tf) (hx : ∀ σ, PassesAt (L2N.CX X.prog X.w) X σ (E σ)) (ha : PA X (e :: es) t)
    (ht : eval (.Call fe (e :: es) [] pos) X.env = (do callWith pos (← eval fe X.env) [] (backTo pos (starEach (e :: es) X.env)) (backToKw pos (keywordEach [] X.env))))
    (he : starEach (e :: es) X.env = (false, eval e X.env) :: starEach es X.env) (hpl : (backTo pos (starEach es X.env)).any (·.1) = false) : PE X (.Call fe (e :: es) [] pos) (tCallF X E tf t) := by
  refine ⟨fun pins s σ H Q I h => ?_⟩
  refine PyProof.Rows.Call_ (thn (hf.run pins s σ H _ I h) fun u s1 ⟨y, H1, I1, ry, f, k, fd, ps, sp, ey, F, hr, hk, hb, q⟩ => ?_) ht
  subst ey
  obtain rfl : u = Value.ref f := ry
  refine PySem.W.callWith_K (h₀ := X.base) I1.ok.mod.kin hk (thn (ha.run pos pins s1 σ H1 _ I1 q) fun us s2 ⟨vs, H2, I2, r, q2⟩ => ⟨I2.kIn, ?_⟩) he hpl
  exact run_fnS F hr hb (hx σ) I2 r q2
theorem d_fnv {y : Str} {p : Pos} {fa : Addr} (hg : Gl X y) (hm : X.mg y = some (.ref fa)) (hdb : (y == ("__debug__" : Str)) = false) : PE X (.Name y p) (tD (gx X) Wx fun _ => .ok (.d (.fn y))) :=
  PE_imp (pe_glob (v := V.ref fa) hg hm rfl hdb) fun σ H Q ⟨F0, H0, F, ρ, R, o⟩ => o F H (.ref fa) (Ext.refl R.fh) ⟨fa, rfl, hm⟩
theorem d_callv {cl : Str → List D → R W} {fe : Expr} {ff : En → R D} {lf : En → Bool} {fl : List Str} (hf : PE X fe (tBo (gx X) Wx ff lf)) (hfn : ∀ x ∈ fl, ∃ (k : Nat) (f : Addr) (fd : FuncData) (ps : List Str), X.mg x = some (.ref f) ∧ PySem.W.keepIn X.K (.ref f) = true ∧ Binds X.K fd ps [] ∧ Room k X.A ∧ FnOk X.prog X.w X.K X.mg X.base (L2N.CX X.prog X.w) k f fd ps (spD (gx X) (cl x)))
    (pa : Pa X Wx) (ha : PA X (e :: es) (tAs (gx X) Wx fs))
    (ht : eval (.Call fe (e :: es) [] pos) X.env = (do callWith pos (← eval fe X.env) [] (backTo pos (starEach (e :: es) X.env)) (backToKw pos (keywordEach [] X.env))))
    (he : starEach (e :: es) X.env = (false, eval e X.env) :: starEach es X.env) (hpl : (backTo pos (starEach es X.env)).any (·.1) = false) :
    PE X (.Call fe (e :: es) [] pos) (tD (gx X) Wx fun ρ => (ff ρ).bind fun d => callvEv fl (fun x => (fs ρ).bind fun ab => lentR ab.2 (cl x ab.1)) d) :=
  PE_imp (pe_callF hf pa ha ht he hpl) fun σ H Q ⟨F0, H0, F, ρ, R, o⟩ => by
    refine ⟨F0, H0, F, ρ, R, o.bind.imp (fun d _ o2 => ?_) (fun _ h => h)⟩
    intro F' H' v E' b _
    cases d with
    | fn x =>
      have o2 : Out (if x ∈ fl then (fs ρ).bind fun ab => lentR ab.2 (cl x ab.1) else .stuck) (okW (gx X) F H Q) (fun c => Thr (gx X) Wx c F σ H) := o2
      split at o2
      · rename_i hx
        obtain ⟨k, f, fd, ps, m1, m2, m3, m4, m5⟩ := hfn x hx
        obtain ⟨a, ea, ma⟩ := (show Rep (gx X) F' (.fn x) v from b)
        subst ea
        have hfa : f = a := by
          have := m1.symm.trans ma
          cases this
          rfl
        subst hfa
        refine ⟨f, k, fd, ps, _, rfl, m5, m4, m2, m3, F0, H0, F', ρ, R.ext E', (Out.bind o2).imp (fun ab _ o2 => ?_) (fun _ h => h.ext E')⟩
        intro F1 H1 vs E1 bxs axs
        have ET := E'.trans E1
        cases hb2 : ab.2 with
        | false =>
          rw [hb2] at o2
          have o3 : Out (cl x ab.1) (okW (gx X) F H Q) (fun c => Thr (gx X) Wx c F σ H) := by
            cases ec : cl x ab.1 with
            | ok w => rw [ec] at o2; exact o2
            | exc c => rw [ec] at o2; exact o2
            | stuck => rw [ec] at o2; exact o2
          exact ⟨F1, ab.1, E1.fh, axs hb2, o3.imp (fun w _ q => okW.ext q ET) fun c h F' H' a e E => h F' H' a e (ET.trans E)⟩
        | true =>
          rw [hb2] at o2
          have o3 := Out.bind (show Out ((cl x ab.1).bind _) _ _ from o2)
          refine ⟨H1, ab.1, Same.refl _, bxs.all E1.fh, o3.imp (fun w _ q => ?_) fun c h F' H' a e E => h F1 H' a e ⟨ET.ff, ET.hh.trans E.hh, ET.fh.trans E.hh, ET.new⟩⟩
          cases w with
          | d x =>
            by_cases hsc : x.scal = true
            · have q : okW (gx X) F H Q (.d x) := by simpa [hsc, Out] using q
              intro F2 H2 v E2 r
              exact q F1 H2 v ⟨ET.ff, ET.hh.trans E2.hh, ET.fh.trans E2.hh, ET.new⟩ (Rep.scal (show Rep (gx X) F2 x v from r) hsc)
            · have q : False := by simpa [hsc, Out] using q
              exact q.elim
          | _ => exact (show False from q).elim
      · exact o2.elim
    | _ => exact (show False from o2).elim
theorem d_call0 {g : List D → R W} {k : Nat} {f : Addr} {fd : FuncData} {ps : List Str} {x : Str} {p : Pos} (Fk : FnOk X.prog X.w X.K X.mg X.base (L2N.CX X.prog X.w) k f fd ps (spD (gx X) g)) (hr : Room k X.A)
    (hg : Gl X x) (hm : X.mg x = some (.ref f)) (hk : PySem.W.keepIn X.K (.ref f) = true) (hb : Binds X.K fd ps []) (hdb : (x == ("__debug__" : Str)) = false) :
    PE X (.Call (.Name x p) [] [] pos) (tD (gx X) Wx fun ρ => match g [] with
      | .ok w => .ok w
      | _ => .stuck) :=
  PE_imp (pe_call0 (E := E0) Fk hr hg hm hk hb .nil (passN passL) hdb) fun σ H Q ⟨F0, H0, F, ρ, R, o⟩ => by
    refine ⟨F, [], R.fh, rfl, ?_⟩
    dsimp only at o
    cases eg : g [] with
    | ok w => rw [eg] at o; exact o
    | exc c => rw [eg] at o; exact o.elim
    | stuck => rw [eg] at o; exact o.elim
theorem d_bi {r : List V → Hp → VK → Prop} {g : List D → R W} {id : String} {x : Str} {p : Pos} (hg : ∀ as, Nox (g as)) (hc : CallR X (.builtin id) (rBi (gx X) g)) (hgl : Gl X x) (hm : X.mg x = none) (hv : bootBuiltins x = some (.builtin id)) (ha : PA X (e :: es) (tAs (gx X) Wx fs))
    (hn : x ≠ "__name__") (hdb : (x == ("__debug__" : Str)) = false) (he : starEach (e :: es) X.env = (false, eval e X.env) :: starEach es X.env) (hpl : (backTo pos (starEach es X.env)).any (·.1) = false) :
    PE X (.Call (.Name x p) (e :: es) [] pos) (tD (gx X) Wx fun ρ => (fs ρ).bind fun ab => g ab.1) :=
  PE_imp (pe_callB hc hgl hm hv ha hn hdb he hpl) fun σ H Q ⟨F0, H0, F, ρ, R, o⟩ =>
    ⟨F0, H0, F, ρ, R, o.bind.imp (fun ab _ o2 F1 H1 vs E1 bxs axs => ⟨F1, ab.1, E1.fh, bxs, (Out.nox o2 (hg _)).imp (fun w _ q => q.ext E1) fun _ h => h⟩) (fun _ h => h)⟩
theorem d_biT {r : List V → Hp → VK → Prop} {g : List D → R W} {T : String} {x : Str} {p : Pos} (hg : ∀ as, Nox (g as)) (hc : CallR X (.type T) (rBi (gx X) g)) (hgl : Gl X x) (hm : X.mg x = none) (hv : bootBuiltins x = some (.type T)) (ha : PA X (e :: es) (tAs (gx X) Wx fs))
    (hn : x ≠ "__name__") (hdb : (x == ("__debug__" : Str)) = false) (he : starEach (e :: es) X.env = (false, eval e X.env) :: starEach es X.env) (hpl : (backTo pos (starEach es X.env)).any (·.1) = false) :
    PE X (.Call (.Name x p) (e :: es) [] pos) (tD (gx X) Wx fun ρ => (fs ρ).bind fun ab => g ab.1) :=
  PE_imp (pe_callTy hc hgl hm hv ha hn hdb he hpl) fun σ H Q ⟨F0, H0, F, ρ, R, o⟩ =>
    ⟨F0, H0, F, ρ, R, o.bind.imp (fun ab _ o2 F1 H1 vs E1 bxs axs => ⟨F1, ab.1, E1.fh, bxs, (Out.nox o2 (hg _)).imp (fun w _ q => q.ext E1) fun _ h => h⟩) (fun _ h => h)⟩

def iD (G : Gx) (Wx : WX) (f : En → R (List D × Bool)) : TI := fun σ H R => ∃ F0 H0 F ρ, Rel G F0 H0 ρ F σ H ∧
  Out (f ρ) (fun db => ∀ F' H' J B, Ext F H F' H' → Same B H' → (db.2 = false → Same B F') → JOk G B F' J db.1 → R J H') (fun c => Thr G Wx c F σ H)
theorem PI_imp {tg e : Expr} {t t' : TI} (h : PI X tg e t) (i : ∀ σ H R, t' σ H R → t σ H R) : PI X tg e t' := ⟨fun pins s σ H R I q => h.run pins s σ H R I (i σ H R q)⟩
/-- a list, a tuple or a text, whichever it is -/
def iSeq (K : PySem.W.Frag) (tl : TE) : TI := fun σ H R => tl σ H fun x H1 => (∃ a, x = .ref a ∧ (∃ xs, SqL K H1 a xs) ∧ R (Itl K a) H1) ∨ (∃ a, x = .ref a ∧ (∃ xs, SqT K H1 a xs) ∧ R (Itt K a) H1) ∨ ∃ z, x = .str z ∧ R (Its z) H1
theorem PI_cut {tg e : Expr} {tl : TE} {wi : V → Hp → (L2.It → Hp → Prop) → Prop} (he : PE X e tl)
    (h : ∀ (pins : List (Addr × Obj)) (s : Shared) (σ : St) (H : Hp) (x : V) (v : Value) (R : L2.It → Hp → Prop), Inv X pins σ H s → RelV x v → wi x H R → wpAny (model X.prog X.w) X.A (pyIter v) (PIE X pins σ tg R) X.xe s) :
    PI X tg e (fun σ H R => tl σ H fun x H1 => wi x H1 R) :=
  ⟨fun pins s σ H R I q => thn (he.run pins s σ H _ I q) fun v s1 ⟨x, H1, I1, r1, q1⟩ => h pins s1 σ H1 x v R I1 r1 q1⟩
theorem it_list {tg : Expr} {pins : List (Addr × Obj)} {s : Shared} {σ : St} {H : Hp} {a : Addr} {xs : List V} {R : L2.It → Hp → Prop} (I : Inv X pins σ H s) (h : SqL X.K H a xs) (q : R (Itl X.K a) H) :
    wpAny (model X.prog X.w) X.A (pyIter (.ref a)) (PIE X pins σ tg R) X.xe s := by
  obtain ⟨its, rv, p, hz⟩ := I.list h
  refine wpAny_pyIter_list p.isList ?_
  have hn := I.hok.fresh (Nat.le_refl s.heap.objs.size)
  refine ⟨s.heap.objs.size, [s.heap.objs.size], _, _, H, rfl, ?_, turn_list a _, ⟨_, Heap.get?_push_size _ rfl, rfl, rfl⟩, fun b hb => ?_, q⟩
  · exact I.kept (t' := s.toks) fun b o e => Heap.get?_push_of_some _ e
  · rw [List.mem_singleton.mp hb]
    exact I.fpOk (Nat.le_refl _) hn
theorem it_tup {tg : Expr} {pins : List (Addr × Obj)} {s : Shared} {σ : St} {H : Hp} {a : Addr} {xs : List V} {R : L2.It → Hp → Prop} (I : Inv X pins σ H s) (h : SqT X.K H a xs) (q : R (Itt X.K a) H) :
    wpAny (model X.prog X.w) X.A (pyIter (.ref a)) (PIE X pins σ tg R) X.xe s := by
  obtain ⟨its, rv, p, hz⟩ := I.tuple h
  refine wpAny_pyIter_tuple (show s.heap.IsTuple a its.toArray from p) ?_
  have hn := I.hok.fresh (Nat.le_refl s.heap.objs.size)
  refine ⟨s.heap.objs.size, [s.heap.objs.size], _, _, H, rfl, ?_, turn_tuple a _, ⟨_, Heap.get?_push_size _ rfl, rfl, rfl⟩, fun b hb => ?_, q⟩
  · exact I.kept (t' := s.toks) fun b o e => Heap.get?_push_of_some _ e
  · rw [List.mem_singleton.mp hb]
    exact I.fpOk (Nat.le_refl _) hn
theorem it_str {tg : Expr} {pins : List (Addr × Obj)} {s : Shared} {σ : St} {H : Hp} {z : Str} {t : Tok} {R : L2.It → Hp → Prop} (I : Inv X pins σ H s) (q : R (Its z) H) :
    wpAny (model X.prog X.w) X.A (pyIter (.str z t)) (PIE X pins σ tg R) X.xe s := by
  cases ha : z.cps.all (· < 128)
  · refine wpAny_pyIter_wide ha (pi_one (tk := s.toks) I _ (turn_str _ z t "str_iterator" ?_) ?_ q)
    · exact .inr rfl
    · exact ⟨_, Heap.get?_push_size _ rfl, rfl, rfl⟩
  · refine wpAny_pyIter_ascii ha (pi_one (tk := s.toks) I _ (turn_str _ z t "str_ascii_iterator" ?_) ?_ q)
    · exact .inl rfl
    · exact ⟨_, Heap.get?_push_size _ rfl, rfl, rfl⟩
theorem pi_seq {tg : Expr} {tl : TE} (he : PE X e tl) : PI X tg e (iSeq X.K tl) :=
  PI_cut (wi := fun x H1 R => (∃ a, x = .ref a ∧ (∃ xs, SqL X.K H1 a xs) ∧ R (Itl X.K a) H1) ∨ (∃ a, x = .ref a ∧ (∃ xs, SqT X.K H1 a xs) ∧ R (Itt X.K a) H1) ∨ ∃ z, x = .str z ∧ R (Its z) H1) he
    fun pins s σ H x v R I rx q => by
      rcases q with ⟨a, rfl, ⟨xs, h⟩, q⟩ | ⟨a, rfl, ⟨xs, h⟩, q⟩ | ⟨z, rfl, q⟩
      · cases rx
        exact it_list I h q
      · cases rx
        exact it_tup I h q
      · obtain ⟨t, rfl⟩ := rx
        exact it_str I q
variable {fa fb : En → R D} {la lb : En → Bool}
theorem i_seq {tg : Expr} (ha : PE X a (tBo (gx X) Wx fa la)) : PI X tg a (iD (gx X) Wx fun ρ => (fa ρ).bind fun d => (R.of (seqs? d)).map fun ds => (ds, la ρ)) :=
  PI_imp (pi_seq ha) fun σ H R0 ⟨F0, H0, F, ρ, R, o⟩ => by
    refine ⟨F0, H0, F, ρ, R, o.bind.imp (fun d _ o2 => ?_) (fun _ h => h)⟩
    intro F1 H1 x E1 bx ax
    obtain ⟨ds, e, q⟩ := (Out.map o2).of
    cases d with
    | lst l =>
      cases e
      obtain ⟨p, vs, rfl, hp, r⟩ := bx
      refine .inl ⟨p, rfl, ⟨vs, .inl hp⟩, ?_⟩
      cases hl : la ρ with
      | true => exact q F1 H1 _ H1 E1 (Same.refl _) (fun z => by rw [hl] at z; cases z) (j_list (G := gx X) hp r)
      | false =>
        obtain ⟨p', vs', e', hp', r'⟩ := ax hl
        cases e'
        exact q F1 H1 _ F1 E1 E1.fh (fun _ => Same.refl _) (j_list (G := gx X) hp' r')
    | tup l =>
      cases e
      obtain ⟨p, vs, rfl, hp, r⟩ := bx
      refine .inr (.inl ⟨p, rfl, ⟨vs, .inl (rd_mono E1.fh hp)⟩, ?_⟩)
      exact q F1 H1 _ F1 E1 E1.fh (fun _ => Same.refl _) (j_tup (G := gx X) hp r)
    | str z =>
      cases e
      cases bx
      exact .inr (.inr ⟨z, rfl, q F1 H1 _ F1 E1 E1.fh (fun _ => Same.refl _) (j_str z)⟩)
    | _ => cases e
theorem rng_bounds {i j : Int} (h : rngOk i j = true) : -(2 ^ 62) ≤ i ∧ i < 2 ^ 62 ∧ -(2 ^ 62) ≤ j ∧ j < 2 ^ 62 := by
  unfold rngOk at h
  simp only [Bool.and_eq_true, decide_eq_true_eq] at h
  omega
theorem i_rng1 {tg : Expr} {p pos : Pos} (hg : Gl X "range") (hm : X.mg "range" = none) (hs : starEach [a] X.env = [(false, eval a X.env)]) (ha : PE X a (tBo (gx X) Wx fa la)) :
    PI X tg (.Call (.Name "range" p) [a] [] pos) (iD (gx X) Wx fun ρ => (okInt (fa ρ)).bind fun n => if rngOk 0 n = true then .ok (intsTo 0 n.toNat, false) else .stuck) :=
  PI_imp (pi_range1 hg hm (pa_cons ha pa_nil hs) hs) fun σ H R0 ⟨F0, H0, F, ρ, R, o⟩ => by
    have h := int_B (X := X) (l := la) (f := fa) (Q := fun n H' => rngOk 0 n = true ∧ R0 (Itr 0 n.toNat) H') ⟨F0, H0, F, ρ, R, o.bind.imp (fun n _ o2 F' H' E => ?_) (fun _ h => h)⟩
    · obtain ⟨F0, H0, F, ρ, R, o⟩ := h
      refine ⟨F0, H0, F, ρ, R, o.imp (fun d _ o2 F' H' v E b r => ?_) fun _ h => h⟩
      obtain ⟨n, ev, hn, q⟩ := o2 F' H' v E b r
      have bd := rng_bounds hn
      exact ⟨n, by rw [ev], bd.2.2.1, bd.2.2.2, q⟩
    · split at o2
      · rename_i hn
        exact ⟨hn, o2 F' H' _ F' E E.fh (fun _ => Same.refl _) (j_rng 0 n.toNat)⟩
      · exact o2.elim
theorem i_rng2 {tg : Expr} {p pos : Pos} (hg : Gl X "range") (hm : X.mg "range" = none) (hs : starEach [a, b] X.env = [(false, eval a X.env), (false, eval b X.env)]) (hs2 : starEach [b] X.env = [(false, eval b X.env)])
    (ha : PE X a (tBo (gx X) Wx fa la)) (hb : PE X b (tBo (gx X) Wx fb lb)) :
    PI X tg (.Call (.Name "range" p) [a, b] [] pos) (iD (gx X) Wx fun ρ => (okInt (fa ρ)).bind fun i => (okInt (fb ρ)).bind fun j => if rngOk i j = true then .ok (intsTo i (j - i).toNat, false) else .stuck) :=
  PI_imp (pi_range2 hg hm (pa_cons ha (pa_cons hb pa_nil hs2) (by rw [hs, hs2])) hs hs2) fun σ H R0 ⟨F0, H0, F, ρ, R, o⟩ => by
    have h := int_B (X := X) (l := la) (f := fa) (Q := fun i H' => tBo (gx X) Wx fb lb σ H' (fun y H2 => ∃ j, y = .int j ∧ (rngOk i j = true ∧ R0 (Itr i (j - i).toNat) H2))) ⟨F0, H0, F, ρ, R, o.bind.imp (fun i _ o2 F' H' E => ?_) (fun _ h => h)⟩
    · obtain ⟨F0, H0, F, ρ, R, o⟩ := h
      refine ⟨F0, H0, F, ρ, R, o.imp (fun d _ o2 F' H' v E b r => ?_) fun _ h => h⟩
      obtain ⟨i, ev, h2⟩ := o2 F' H' v E b r
      obtain ⟨F0, H0, F, ρ, R, o⟩ := h2
      refine ⟨F0, H0, F, ρ, R, o.imp (fun d _ o2 F' H' v' E b r => ?_) fun _ h => h⟩
      obtain ⟨j, ev', hn, q⟩ := o2 F' H' v' E b r
      exact ⟨i, j, by rw [ev, ev'], rng_bounds hn, q⟩
    · refine int_B (X := X) (l := lb) (f := fb) (Q := fun j H2 => rngOk i j = true ∧ R0 (Itr i (j - i).toNat) H2) ⟨F0, H0, F', ρ, R.ext E, (Out.bind o2).imp (fun j _ o3 F2 H2 E2 => ?_) (fun _ h => h.ext E)⟩
      split at o3
      · rename_i hn
        exact ⟨hn, o3 F2 H2 _ F2 (E.trans E2) E2.fh (fun _ => Same.refl _) (j_rng i (j - i).toNat)⟩
      · exact o3.elim
theorem i_zip {elts : List Expr} {kk : Nat} {tpos p pos : Pos} (hg : Gl X "zip") (hm : X.mg "zip" = none) (hs : starEach [a, b] X.env = [(false, eval a X.env), (false, eval b X.env)]) (hs2 : starEach [b] X.env = [(false, eval b X.env)])
    (ha : PE X a (tBo (gx X) Wx fa la)) (hb : PE X b (tBo (gx X) Wx fb lb)) :
    PI X (.Tuple elts kk tpos) (.Call (.Name "zip" p) [a, b] [] pos) (iD (gx X) Wx fun ρ => (fa ρ).bind fun x => (fb ρ).bind fun y => (R.of (zip? x y)).map fun xs => (xs, la ρ || lb ρ)) :=
  PI_imp (pi_zm hg hm (pa_cons ha (pa_cons hb pa_nil hs2) (by rw [hs, hs2])) (by rw [hs, hs2]) (by rw [hs2]; rfl)) fun σ H R0 ⟨F0, H0, F, ρ, R, o⟩ => by
    refine ⟨F0, H0, F, ρ, R, o.bind.imp (fun d _ o2 => ?_) (fun _ h => h)⟩
    intro F1 H1 x E1 bx ax
    refine ⟨F0, H0, F1, ρ, R.ext E1, (Out.bind o2).imp (fun d' _ o3 => ?_) (fun _ h => h.ext E1)⟩
    intro F2 H2 y E2 by2 ay
    have bx := bx.mono E2.ff E2.hh
    obtain ⟨ds, e, q⟩ := (Out.map o3).of
    have E := E1.trans E2
    cases d with
    | lst l =>
      cases d' with
      | lst l' =>
        cases e
        obtain ⟨p, vs, rfl, hp, r⟩ := bx
        obtain ⟨p', vs', rfl, hp', r'⟩ := by2
        refine ⟨p, p', vs, vs', rfl, .inl ⟨.inl hp, .inl hp', ?_⟩⟩
        cases hl : la ρ || lb ρ with
        | true => exact q F2 H2 _ H2 E (Same.refl _) (fun z => by rw [hl] at z; cases z) (j_zip (G := gx X) hp r hp' r')
        | false =>
          have hl' : la ρ = false ∧ lb ρ = false := by simpa using hl
          obtain ⟨p1, vs1, e1, hp1, r1⟩ := Rep.mono E2.ff _ (ax hl'.1)
          obtain ⟨p2, vs2, e2, hp2, r2⟩ := ay hl'.2
          cases e1; cases e2
          exact q F2 H2 _ F2 E E2.fh (fun _ => Same.refl _) (j_zip (G := gx X) hp1 r1 hp2 r2)
      | _ => cases e
    | tup l =>
      cases d' with
      | tup l' =>
        cases e
        obtain ⟨p, vs, rfl, hp, r⟩ := bx
        obtain ⟨p', vs', rfl, hp', r'⟩ := by2
        refine ⟨p, p', vs, vs', rfl, .inr (.inl ⟨.inl (rd_mono E2.fh hp), .inl (rd_mono E2.fh hp'), ?_⟩)⟩
        exact q F2 H2 _ F2 E E2.fh (fun _ => Same.refl _) (j_zipT (G := gx X) hp r hp' r')
      | lst l' =>
        cases e
        obtain ⟨p, vs, rfl, hp, r⟩ := bx
        obtain ⟨p', vs', rfl, hp', r'⟩ := by2
        refine ⟨p, p', vs, vs', rfl, .inr (.inr ⟨.inl (rd_mono E2.fh hp), .inl hp', ?_⟩)⟩
        cases hl : la ρ || lb ρ with
        | true => exact q F2 H2 _ H2 E (Same.refl _) (fun z => by rw [hl] at z; cases z) (j_zm (G := gx X) (rd_mono E2.fh hp) r hp' r')
        | false =>
          have hl' : la ρ = false ∧ lb ρ = false := by simpa using hl
          obtain ⟨p2, vs2, e2, hp2, r2⟩ := ay hl'.2
          cases e2
          exact q F2 H2 _ F2 E E2.fh (fun _ => Same.refl _) (j_zm (G := gx X) hp r hp2 r2)
      | _ => cases e
    | _ => cases e
theorem i_enum {elts : List Expr} {kk : Nat} {tpos p pos : Pos} (hg : Gl X "enumerate") (hm : X.mg "enumerate" = none) (hs : starEach [a] X.env = [(false, eval a X.env)]) (ha : PE X a (tBo (gx X) Wx fa la)) :
    PI X (.Tuple elts kk tpos) (.Call (.Name "enumerate" p) [a] [] pos) (iD (gx X) Wx fun ρ => (fa ρ).bind fun x => (R.of (enum? x)).map fun xs => (xs, la ρ)) :=
  PI_imp (pi_enum2 hg hm (pa_cons ha pa_nil (by rw [hs]; rfl)) hs) fun σ H R0 ⟨F0, H0, F, ρ, R, o⟩ => by
    refine ⟨F0, H0, F, ρ, R, o.bind.imp (fun d _ o2 => ?_) (fun _ h => h)⟩
    intro F1 H1 x E1 bx ax
    obtain ⟨ds, e, q⟩ := (Out.map o2).of
    cases d with
    | lst l =>
      cases e
      obtain ⟨p, vs, rfl, hp, r⟩ := bx
      refine ⟨p, vs, rfl, .inl ⟨.inl hp, ?_⟩⟩
      cases hl : la ρ with
      | true => exact q F1 H1 _ H1 E1 (Same.refl _) (fun z => by rw [hl] at z; cases z) (j_enum (G := gx X) hp r)
      | false =>
        obtain ⟨p1, vs1, e1, hp1, r1⟩ := ax hl
        cases e1
        exact q F1 H1 _ F1 E1 E1.fh (fun _ => Same.refl _) (j_enum (G := gx X) hp1 r1)
    | tup l =>
      cases e
      obtain ⟨p, vs, rfl, hp, r⟩ := bx
      exact ⟨p, vs, rfl, .inr ⟨.inl (rd_mono E1.fh hp), q F1 H1 _ F1 E1 E1.fh (fun _ => Same.refl _) (j_enumT (G := gx X) hp r)⟩⟩
    | _ => cases e
end

def gNames : List Nat → TGs
  | [] => gNil
  | i :: r => gCons (gName i) (gNames r)
def gPt (K : PySem.W.Frag) : Pt → TG
  | .one i => gName i
  | .tup is => gTup K is.length (gNames is)
  | .tup2 i is => gTup K 2 (gCons (gName i) (gCons (gTup K is.length (gNames is)) gNil))
section
variable {G : Gx} {F0 : Fr} {H0 F H : Hp} {ρ ρ1 : En} {σ : St}
theorem names_ok : ∀ {is : List Nat} {ds : List D} {vs : List V} {ρ : En} {σ : St} {Q : St → Hp → Prop}, asgs is ds ρ = some ρ1 → Reps G F ds vs → Rel G F0 H0 ρ F σ H →
    (∀ σ1, Rel G F0 H0 ρ1 F σ1 H → (∀ l, (∀ i ∈ is, i ∈ l) → L2.wipe σ1 l = L2.wipe σ l) → Q σ1 H) → gNames is vs σ H Q
  | [], [], vs, ρ, σ, Q, e, r, R, h => by
    cases e
    exact ⟨r, h σ R fun _ _ => rfl⟩
  | [], d :: ds, vs, ρ, σ, Q, e, r, R, h => by cases e
  | i :: is, [], vs, ρ, σ, Q, e, r, R, h => by cases e
  | i :: is, d :: ds, vs, ρ, σ, Q, e, r, R, h => by
    obtain ⟨v, w, ev, h1, h2⟩ := r
    refine ⟨v, w, ev, names_ok (is := is) e h2 (R.set h1) fun σ1 R1 hw => h σ1 R1 fun l hl => ?_⟩
    rw [hw l fun j hj => hl j (List.mem_cons_of_mem _ hj)]
    exact wipe_set (hl i List.mem_cons_self)
where
  wipe_set {σ : St} {i : Nat} {x : Option V} : ∀ {l : List Nat}, i ∈ l → L2.wipe (σ.set i x) l = L2.wipe σ l
    | a :: l, h => by
      show (L2.wipe (σ.set i x) l).set a none = (L2.wipe σ l).set a none
      by_cases hi : i ∈ l
      · rw [wipe_set hi]
      · have ha : i = a := by
          rcases List.mem_cons.mp h with h | h
          · exact h
          · exact absurd h hi
        subst ha
        rw [wipe_out hi, List.set_set]
  wipe_out {σ : St} {i : Nat} {x : Option V} : ∀ {l : List Nat}, i ∉ l → L2.wipe (σ.set i x) l = (L2.wipe σ l).set i x
    | [], _ => rfl
    | a :: l, h => by
      have h1 : i ≠ a := fun z => h (by rw [z]; exact List.mem_cons_self)
      have h2 : i ∉ l := fun z => h (List.mem_cons_of_mem _ z)
      show (L2.wipe (σ.set i x) l).set a none = ((L2.wipe σ l).set a none).set i x
      rw [wipe_out h2, List.set_comm _ _ h1]
def Pt.slots : Pt → List Nat
  | .one i => [i]
  | .tup is => is
  | .tup2 i is => i :: is
theorem pt_ok {g : Pt} {d : D} {v : V} {Q : St → Hp → Prop} (e : asgn g d ρ = some ρ1) (r : Rep G F d v) (R : Rel G F0 H0 ρ F σ H)
    (h : ∀ σ1, Rel G F0 H0 ρ1 F σ1 H → (∀ l, (∀ i ∈ g.slots, i ∈ l) → L2.wipe σ1 l = L2.wipe σ l) → Q σ1 H) : gPt G.K g v σ H Q := by
  cases g with
  | one i =>
    cases e
    exact h _ (R.set r) fun l hl => names_ok.wipe_set (hl i List.mem_cons_self)
  | tup is =>
    cases d with
    | tup ds =>
      obtain ⟨a, vs, ev, ha, rs⟩ := r
      refine ⟨a, vs, ev, .inl (rd_mono R.fh ha), ?_, names_ok (show asgs is ds ρ = some ρ1 from e) rs R h⟩
      rw [rs.length]
      exact asgs_len (show asgs is ds ρ = some ρ1 from e)
    | _ => cases e
  | tup2 i is =>
    unfold asgn at e
    dsimp only at e
    split at e
    · rename_i a ds
      obtain ⟨p, vs, ev, hp, v1, w1, e1, r1, v2, w2, e2, ⟨q, us, eq, hq, rus⟩, e3⟩ := r
      subst e1 e2
      have e3 : w2 = [] := e3
      subst e3
      have R1 := R.set (i := i) r1
      refine ⟨p, _, ev, .inl (rd_mono R.fh hp), rfl, v1, _, rfl, (show gCons (gTup G.K is.length (gNames is)) gNil [v2] (σ.set i (some v1)) H Q from ?_)⟩
      refine ⟨v2, [], rfl, q, us, eq, .inl (rd_mono R1.fh hq), ?_, names_ok e rus R1 fun σ1 R2 hw => ⟨rfl, h σ1 R2 fun l hl => ?_⟩⟩
      · rw [rus.length]
        exact asgs_len e
      · rw [hw l fun j hj => hl j (List.mem_cons_of_mem _ hj)]
        exact names_ok.wipe_set (hl i List.mem_cons_self)
    · cases e
where
  asgs_len : ∀ {is : List Nat} {ds : List D} {ρ : En}, asgs is ds ρ = some ρ1 → ds.length = is.length
    | [], [], _, _ => rfl
    | [], _ :: _, _, e => by cases e
    | _ :: _, [], _, e => by cases e
    | i :: is, d :: ds, ρ, e => by
      rw [List.length_cons, List.length_cons, asgs_len (is := is) (ds := ds) e]
theorem wipe_twice {σ : St} (l : List Nat) : L2.wipe (L2.wipe σ l) l = L2.wipe σ l := by
  have h : ∀ (m : List Nat), (∀ i ∈ m, i ∈ l) → L2.wipe (L2.wipe σ m) l = L2.wipe σ l := by
    intro m
    induction m with
    | nil => intro _; rfl
    | cons a m ih =>
      intro hm
      rw [show L2.wipe σ (a :: m) = (L2.wipe σ m).set a none from rfl, names_ok.wipe_set (hm a List.mem_cons_self)]
      exact ih fun i hi => hm i (List.mem_cons_of_mem _ hi)
  exact h l fun _ hi => hi
end
end G81
end
section
set_option Elab.async false
set_option linter.all false
set_option maxHeartbeats 4000000
namespace G81
open PySem PySem.Spec L2
theorem ints_shape : ∀ {ds : List D} {is : List Int}, ints? ds = some is → ds = is.map D.int
  | [], is, e => by cases e; rfl
  | d :: r, is, e => by
    cases d <;> simp [ints?] at e
    obtain ⟨js, e1, e2⟩ := e
    subst e2
    rw [ints_shape e1]
    rfl
theorem ints_pls (n : Nat) : ∀ is : List Int, D.pls n (is.map D.int) = true
  | [] => by simp [D.pls]
  | i :: is => by simp [D.pls, D.pl, ints_pls n is]
theorem bls_shape : ∀ {ds : List D} {is : List Bool}, bls? ds = some is → ds = is.map D.bl
  | [], is, e => by cases e; rfl
  | d :: r, is, e => by
    cases d <;> simp [bls?] at e
    obtain ⟨js, e1, e2⟩ := e
    subst e2
    rw [bls_shape e1]
    rfl
/-- an expression that is not of the special forms -/
def nst (e : Expr) : Bool :=
  match e with
  | .Starred _ _ => false
  | .Slice _ _ _ _ => false
  | .Set _ _ _ => false
  | _ => true
section
variable {X : Cx} {Wx : WX} {a b c e : Expr} {pos : Pos} {es : List Expr} {fs : En → R (List D × Bool)}
theorem starEach_one {e : Expr} {env : Env} (h : nst e = true) : starEach [e] env = [(false, eval e env)] := by
  cases e <;> first | rfl | cases h
def rMaxD (G : Gx) (z : Int) : List V → List V → Hp → VK → Prop := fun xs zs H Q => ∃ F ds, Same F H ∧ BReps G F H ds xs ∧ zs = [.int z] ∧ ans G F H Q (maxdEv (ds ++ [.int z]))
theorem bi_maxd {z : Int} (hc : X.calm = true) (hu : X.A.units + 64 < cLine) : CallRK X (.builtin "max") [Str.ofString "default"] (rMaxD (gx X) z) := by
  intro pins s σ H xs zs us ws Q I r r2 h
  obtain ⟨F, ds, sF, b, rfl, o⟩ := h
  obtain ⟨uz, rfl, rz⟩ := vals1 r2
  unfold maxdEv at o
  split at o
  · rename_i ds' z' eq
    have eds : ds = [.lst ds'] ∧ z' = z := by
      match ds, eq with
      | [], eq => simp at eq
      | [d], eq => simpa [eq_comm] using eq
      | _ :: _ :: _, eq => simp at eq
    obtain ⟨rfl, rfl⟩ := eds
    obtain ⟨v, rfl, bv⟩ := br1 b
    obtain ⟨is, e, o2⟩ := (Out.map o).of
    obtain ⟨p, vs, rfl, hp, rr⟩ := bv
    rw [Vals.ref1 r]
    obtain ⟨its, rv, hl, hz⟩ := I.list (xs := vs) (.inl hp)
    have ed := ints_shape e
    subst ed
    obtain ⟨as, rd⟩ := Dp.readsAll I _ _ its (dps_of sF NEST _ (ints_pls NEST is) rr) rv
    have pd := plain_toPs NEST _ (ints_pls NEST is)
    have hn : NEST = 20 := rfl
    have ei : D.toPs (is.map D.int) = is.map PyData.int := by
      rw [toPs_map, List.map_map]
      rfl
    rw [ei] at rd pd
    have pd2 := pd.2
    refine PySem.W.max_list_default (vs := its.toArray) (xs := is.map PyData.int) (as := as) (I.ok.hd hc) hl.isList (by simpa using rd) ⟨fun a ha b hb => ?_, fun a ha => ?_⟩ (by omega) (fun en h' tk kp => ?_) (fun y ys i v h' tk bs en hv rds kp => ?_)
    · obtain ⟨a', ha', rfl⟩ := List.mem_map.mp ha
      obtain ⟨b', hb', rfl⟩ := List.mem_map.mp hb
      rfl
    · obtain ⟨a', ha', rfl⟩ := List.mem_map.mp ha
      simp
    · have en : is = [] := by simpa using en
      subst en
      have I' : Inv X pins σ H { s with heap := h', toks := tk } := I.kept kp
      exact ⟨.int z', H, I', rz, okW.scal o2 sF fun _ => rfl⟩
    · cases is with
      | nil => simp at en
      | cons j js =>
        have en : PyData.int j = y ∧ js.map PyData.int = ys := by simpa using en
        obtain ⟨rfl, rfl⟩ := en
        rw [PySem.W.maxD_ints] at rds
        have I' : Inv X pins σ H { s with heap := h', toks := tk } := I.kept kp
        cases rds
        exact ⟨.int _, H, I', ⟨_, rfl⟩, okW.scal o2 sF fun _ => rfl⟩
  · exact o.elim
theorem d_maxd {j : Nat} {z : Int} {p p2 pos kp : Pos} {f : En → R D} {l : En → Bool} (hc : X.calm = true) (hu : X.A.units + 64 < cLine) (hgl : Gl X ("max" : Str)) (hm : X.mg ("max" : Str) = none) (ha : PE X e (tBo (gx X) Wx f l)) (he : nst e = true) :
    PE X (.Call (.Name ("max" : Str) p) [e] [⟨some (Str.ofString "default"), .Constant (.int z) j p2, kp⟩] pos) (tD (gx X) Wx fun ρ => (f ρ).bind fun d => maxdEv [d, .int z]) := by
  have hs : starEach [e] X.env = (false, eval e X.env) :: starEach [] X.env := starEach_one he
  refine PE_imp (pe_callBK (bi_maxd (z := z) hc hu) hgl hm (by decide +kernel) (a_cons (la := l) hs ha a_nil) (pk_cons pe_int pk_nil) (by decide +kernel) (by decide +kernel) (by rw [hs]; rfl) (by rw [hs]; rfl)) fun σ H Q ⟨F0, H0, F, ρ, R, o⟩ => ?_
  refine ⟨F0, H0, F, ρ, R, ?_⟩
  dsimp only at o ⊢
  cases ef : f ρ with
  | stuck => rw [ef] at o; exact o.elim
  | exc c => rw [ef] at o; exact o
  | ok d =>
    rw [ef] at o
    intro F1 H1 vs E1 bxs axs
    exact ⟨F1, [d], E1.fh, bxs, rfl, (Out.nox o (nox_bi .maxd _)).imp (fun w _ q => q.ext E1) fun _ h => h⟩
end
end G81
end
section
set_option Elab.async false
set_option linter.all false
set_option maxHeartbeats 4000000
namespace G81
open PySem PySem.Spec L2
def rMe (G : Gx) (g : D → List D → R W) : V → List V → Hp → VK → Prop := fun x xs H Q => ∃ F d ds, Same F H ∧ BRep G F H d x ∧ BReps G F H ds xs ∧ ans G F H Q (g d ds)
theorem strs_rep {G : Gx} {F : Hp} : ∀ {ds : List D} {is : List Str} {vs : List V}, strs? ds = some is → Reps G F ds vs → vs = is.map V.str
  | [], is, vs, e, h => by
    rw [show vs = [] from h]
    cases e
    rfl
  | d :: r, is, vs, e, h => by
    obtain ⟨v, w, ev, h1, h2⟩ := h
    cases d <;> simp [strs?] at e
    obtain ⟨js, e1, e2⟩ := e
    subst e2
    rw [ev, strs_rep e1 h2, show v = _ from h1]
    rfl
theorem reps_strs {G : Gx} {F : Hp} : ∀ ys : List Str, Reps G F (ys.map D.str) (ys.map V.str)
  | [] => rfl
  | y :: ys => ⟨.str y, _, rfl, rfl, reps_strs ys⟩
def nsup (e : Expr) : Bool :=
  match e with
  | .Call (.Name _ _) [] [] _ => false
  | _ => true
section
variable {X : Cx} {Wx : WX} {a b c e : Expr} {pos : Pos} {es : List Expr} {fs : En → R (List D × Bool)}
theorem find_at {α : Type} {p : α → Bool} : ∀ {l : List α} {n : Nat}, l.findIdx? p = some n → ∃ x, l[n]? = some x ∧ p x = true ∧ ∀ m y, m < n → l[m]? = some y → p y = false
  | l, n, h => by
    obtain ⟨h1, h2, h3⟩ := List.findIdx?_eq_some_iff_getElem.mp h
    refine ⟨l[n], List.getElem?_eq_getElem h1, h2, fun m y hm e => ?_⟩
    have hl : m < l.length := by omega
    rw [List.getElem?_eq_getElem hl] at e
    cases e
    simpa using h3 m hm
theorem me_index : MtR X "list.index" (rMe (gx X) indexEv) := by
  intro pins s σ H x xs v us Q I rx rxs h
  obtain ⟨F, d, ds, sF, bx, bs, o⟩ := h
  unfold indexEv at o
  split at o
  · rename_i ds' k
    obtain ⟨y, rfl, by_⟩ := br1 bs
    cases by_
    obtain ⟨is, e, o⟩ := (Out.bind o).of
    obtain ⟨n, e2, o⟩ := (Out.map o).of
    obtain ⟨p, vs, rfl, hp, rr⟩ := bx
    have ev := ints_rep e rr
    subst ev
    obtain ⟨z, h1, h2, h3⟩ := find_at e2
    refine mt_index pins s σ H _ _ v us Q I rx rxs ⟨p, _, .int k, n, .int z, rfl, rfl, .inl hp, rfl, ?_, ?_, h2, fun m z' hm ez => ?_, okW.scal o sF fun _ => rfl⟩
    · rw [List.all_map]
      exact List.all_eq_true.mpr fun _ _ => rfl
    · rw [List.getElem?_map, h1]
      rfl
    · rw [List.getElem?_map] at ez
      obtain ⟨y, e3, rfl⟩ := Option.map_eq_some_iff.mp ez
      exact h3 m y hm e3
  · rename_i ds' k
    obtain ⟨y, rfl, by_⟩ := br1 bs
    cases by_
    obtain ⟨is, e, o⟩ := (Out.bind o).of
    obtain ⟨n, e2, o⟩ := (Out.map o).of
    obtain ⟨p, vs, rfl, hp, rr⟩ := bx
    have ev := bls_rep e rr
    subst ev
    obtain ⟨z, h1, h2, h3⟩ := find_at e2
    refine mt_index pins s σ H _ _ v us Q I rx rxs ⟨p, _, .bl k, n, .bl z, rfl, rfl, .inl hp, rfl, ?_, ?_, h2, fun m z' hm ez => ?_, okW.scal o sF fun _ => rfl⟩
    · rw [List.all_map]
      exact List.all_eq_true.mpr fun _ _ => rfl
    · rw [List.getElem?_map, h1]
      rfl
    · rw [List.getElem?_map] at ez
      obtain ⟨y, e3, rfl⟩ := Option.map_eq_some_iff.mp ez
      exact h3 m y hm e3
  · exact o.elim
theorem bls_count (k : Bool) : ∀ {us : List Value} (is : List Bool), Vals (is.map V.bl) us → us.countP (eqU (.bl k)) = is.count k
  | us, [], r => by cases r; rfl
  | us, i :: is, r => by
    cases r with
    | cons r1 r2 =>
      have ih := bls_count k is r2
      cases r1
      rw [List.countP_cons, List.count_cons, ih]
      rfl
theorem me_count : MtR X "list.count" (rMe (gx X) countEv) := by
  intro pins s σ H x xs v us Q I rx rxs h
  obtain ⟨F, d, ds, sF, bx, bs, o⟩ := h
  unfold countEv at o
  split at o
  · rename_i ds' k
    obtain ⟨y, rfl, by_⟩ := br1 bs
    cases by_
    obtain ⟨is, e, o⟩ := (Out.map o).of
    obtain ⟨p, vs, rfl, hp, rr⟩ := bx
    have ev := ints_rep e rr
    subst ev
    exact mt_lcount pins s σ H _ _ v us Q I rx rxs ⟨p, is, k, rfl, rfl, .inl hp, okW.scal o sF fun _ => rfl⟩
  · rename_i ds' k
    obtain ⟨y, rfl, by_⟩ := br1 bs
    cases by_
    obtain ⟨is, e, o⟩ := (Out.map o).of
    obtain ⟨p, vs, rfl, hp, rr⟩ := bx
    have ev := bls_rep e rr
    subst ev
    cases rx
    obtain ⟨u, rfl, ru⟩ := rxs.one
    obtain ⟨its, rv, ⟨⟨cls, dd, data, sl⟩, n, ho, hc, hdn, hd⟩, hlen⟩ := I.list (xs := is.map V.bl) (.inl hp)
    simp only at hc hd
    subst hc hd
    refine call_meets PySem.F.slot_list_count ⟨_, ho, rfl⟩ PySem.F.entry_list_count (PySem.F.args_list_count_2 _ _)
      (SeqAt.list_countAt p its.toArray n dd sl u (eqU (.bl k))) ⟨ho, fun y hy => mem_eqAt ru rfl rv (by rw [List.all_map]; exact List.all_eq_true.mpr fun _ _ => rfl) y (by simpa using hy), ?_⟩
    refine ⟨.int (is.count k : Nat), H, I.tok _, ⟨s.toks, ?_⟩, okW.scal o sF fun _ => rfl⟩
    show Value.int ((its.toArray.toList.countP (eqU (.bl k)) : Nat) : Int) s.toks = Value.int ((is.count k : Nat) : Int) s.toks
    rw [← bls_count k is rv]
  · exact o.elim
theorem me_join : MtR X "str.join" (rMe (gx X) joinEv) := by
  intro pins s σ H x xs v us Q I rx rxs h
  obtain ⟨F, d, ds, sF, bx, bs, o⟩ := h
  unfold joinEv at o
  split at o
  · obtain ⟨y, rfl, by_⟩ := br1 bs
    obtain ⟨ys, e, o⟩ := (Out.bind o).of
    split at o
    · rename_i hz
      obtain ⟨p, vs, rfl, hp, rr⟩ := by_
      have ev := strs_rep e rr
      subst ev
      cases bx
      refine mt_join pins s σ H _ _ v us Q I rx rxs ⟨_, p, ys, rfl, rfl, .inl (.inl hp), ?_, okW.scal o sF fun _ => rfl⟩
      have h2 : (SIZE : Nat) ≤ 16777216 := by decide
      omega
    · exact o.elim
  · exact o.elim
theorem me_split : MtR X "str.split" (rMe (gx X) splitEv) := by
  intro pins s σ H x xs v us Q I rx rxs h
  obtain ⟨F, d, ds, sF, bx, bs, o⟩ := h
  unfold splitEv at o
  split at o
  · obtain ⟨y, rfl, by_⟩ := br1 bs
    split at o
    · rename_i hz
      cases bx
      cases by_
      exact mt_split pins s σ H _ _ v us Q I rx rxs ⟨_, _, rfl, rfl, hz.1, sizes hz.2, fun p np => okW.fl o sF (reps_strs _) np⟩
    · exact o.elim
  · exact o.elim
theorem me_part : MtR X "str.partition" (rMe (gx X) partEv) := by
  intro pins s σ H x xs v us Q I rx rxs h
  obtain ⟨F, d, ds, sF, bx, bs, o⟩ := h
  unfold partEv at o
  split at o
  · obtain ⟨y, rfl, by_⟩ := br1 bs
    split at o
    · rename_i hz
      cases bx
      cases by_
      exact mt_partition pins s σ H _ _ v us Q I rx rxs ⟨_, _, rfl, rfl, hz.1, sizes hz.2, fun p np => okW.tup o sF (reps_strs [_, _, _]) np⟩
    · exact o.elim
  · exact o.elim
theorem me_get (hu : X.A.units + 64 < cLine) : MtR X "dict.get" (rMe (gx X) getEv) := by
  intro pins s σ H x xs v us Q I rx rxs h
  obtain ⟨F, d, ds, sF, bx, bs, o⟩ := h
  unfold getEv at o
  split at o
  · rename_i kvs dk de
    split at o
    · rename_i hsc
      obtain ⟨y, y2, rfl, b1, b2⟩ := br2 bs
      obtain ⟨k, e, o⟩ := (Out.map o).of
      obtain ⟨p, ws, rfl, hp, rr⟩ := bx
      have b1' : Rep (gx X) F dk y := by
        cases dk <;> first | exact b1 | cases e
      have ey := key_rep e b1'
      subst ey
      have b2' : ∀ F, Rep (gx X) F de y2 := fun F => by
        cases de <;> first | exact b2 | cases hsc
      cases rx
      cases rxs with
      | cons r1 r2 =>
        cases r2 with
        | cons r2 r3 =>
        cases r3
        refine d_get2 (d := y2) (o := valV ws k) (y := kV k) (by omega) I (.inl ⟨ws, k, hp, rfl, rfl⟩) r1 r2 fun w' s' I' rw' => ⟨_, H, I', rw', ?_⟩
        rcases valK_rep (k := k) rr with ⟨e1, e2⟩ | ⟨d', v', e1, e2, r3⟩
        · rw [e2]
          rw [e1] at o
          exact okW.d o sF (b2' F)
        · rw [e2]
          rw [e1] at o
          exact okW.d o sF r3
    · exact o.elim
  · exact o.elim
theorem base_ok {o : Expr} {n : Str} {env : Env} {whole : Sem Value} (h : nsup o = true) : attributeBase o n env whole = whole := by
  cases o with
  | Call f l k p =>
    cases f with
    | Name y q =>
      cases l with
      | nil =>
        cases k with
        | nil => cases h
        | cons a b => rfl
      | cons a b => rfl
    | _ => rfl
  | _ => rfl
def meTyp (m : Me) : String :=
  match m with
  | .index => "list"
  | .count => "list"
  | .get => "dict"
  | _ => "str"
theorem me_ty {m : Me} {d : D} {F H : Hp} {x : V} {T : String} (e : meTy m d = true) (hT : T = meTyp m) (b : BRep (gx X) F H d x) : tyV X.K T x H := by
  subst hT
  cases m <;> cases d <;> first | (cases e; done) | skip
  · obtain ⟨p, vs, rfl, hp, _⟩ := b
    exact .inl ⟨rfl, vs, .inl hp⟩
  · obtain ⟨p, vs, rfl, hp, _⟩ := b
    exact .inl ⟨rfl, vs, .inl hp⟩
  · cases b; rfl
  · cases b; rfl
  · cases b; rfl
theorem d_me {m : Me} {T id : String} {n : Str} {o : Expr} {fo : En → R D} {lo : En → Bool} {apos cpos : Pos} (pa : PlainAttrs T) (slot : Slot T n id) (hty : typeOf (.builtin id) = pure (.type "method_descriptor")) (hm : MtR X id (rMe (gx X) (meEv m)))
    (hT : T = meTyp m) (ho : PE X o (tBo (gx X) Wx fo lo)) (ha : PA X (e :: es) (tAs (gx X) Wx fs)) (hb : nsup o = true) (hl : (apos.endLine == cpos.line) = true)
    (hfew : ((backTo cpos (starEach (e :: es) X.env)).all (fun x => !x.1) && (backToKw cpos (keywordEach [] X.env)).all (fun x => x.1.isSome)
      && decide ((e :: es).length + ([] : List Keyword).length + (if ([] : List Keyword).isEmpty then 0 else 1) < 30)) = true)
    (hs : starEach (e :: es) X.env = (false, eval e X.env) :: starEach es X.env) (hpl : (backTo cpos (starEach es X.env)).any (·.1) = false) :
    PE X (.Call (.Attribute o n apos) (e :: es) [] cpos) (tD (gx X) Wx fun ρ => (fo ρ).bind fun x => if meTy m x = true then (fs ρ).bind fun ab => meEv m x ab.1 else .stuck) :=
  PE_imp (pe_bm pa slot hty hm ho ha (base_ok hb) hfew hl hs hpl) fun σ H Q ⟨F0, H0, F, ρ, R, o1⟩ => by
    refine ⟨F0, H0, F, ρ, R, o1.bind.imp (fun d _ o2 => ?_) (fun _ h => h)⟩
    intro F1 H1 x E1 bx ax
    split at o2
    · rename_i hty2
      refine ⟨me_ty hty2 hT bx, F0, H0, F1, ρ, R.ext E1, (Out.bind o2).imp (fun ab _ o3 => ?_) (fun _ h => h.ext E1)⟩
      intro F2 H2 xs E2 bxs axs
      exact ⟨F2, d, ab.1, E2.fh, bx.mono E2.ff E2.hh, bxs, (Out.nox o3 (nox_me m _ _)).imp (fun w _ q => q.ext (E1.trans E2)) fun _ h => h⟩
    · exact o2.elim
end
end G81
end
section
set_option Elab.async false
set_option linter.all false
set_option maxHeartbeats 4000000
set_option maxRecDepth 100000
namespace G81
open PySem PySem.Spec PyProof.Rows L2
def tyName : Ty → Str
  | .int => "int"
  | .bool => "bool"
  | .str => "str"
  | .tuple => "tuple"
  | .list => "list"
  | .dict => "dict"
def tyId : Ty → String
  | .int => "int"
  | .bool => "bool"
  | .str => "str"
  | .tuple => "tuple"
  | .list => "list"
  | .dict => "dict"
theorem mem_nubI {k : Int} : ∀ {l : List Int}, k ∈ nubI l ↔ k ∈ l
  | [] => Iff.rfl
  | x :: r => by
    rw [nubI, List.mem_cons, List.mem_filter, mem_nubI (l := r), List.mem_cons]
    constructor
    · rintro (h | h)
      · exact .inl h
      · exact .inr h.1
    · rintro (h | h)
      · exact .inl h
      · by_cases q : k = x
        · exact .inl q
        · exact .inr ⟨h, by simpa using q⟩
theorem nodup_nubI : ∀ l : List Int, (nubI l).Nodup
  | [] => List.nodup_nil
  | x :: r => by
    rw [nubI, List.nodup_cons]
    refine ⟨fun h => ?_, (nodup_nubI r).filter _⟩
    have := (List.mem_filter.mp h).2
    simp at this
theorem sortset_eq {l l' : List Int} (h : l'.Pairwise (· < ·)) (m : ∀ k, k ∈ l' ↔ k ∈ l) : l' = (nubI l).mergeSort fun i j => decide (i ≤ j) := by
  refine sortI_eq ?_ (h.imp fun q => Int.le_of_lt q)
  refine (List.perm_ext_iff_of_nodup (h.imp fun q => Int.ne_of_lt q) (nodup_nubI l)).mpr fun k => ?_
  rw [m, mem_nubI]
section
variable {X : Cx} {Wx : WX} {a b c d e : Expr} {pos : Pos} {fa fb fc fd : En → R D} {la lb lc ld : En → Bool}
def rIsD (G : Gx) (t : Ty) : List V → Hp → VK → Prop := fun xs H Q => ∃ F d x, Same F H ∧ BRep G F H d x ∧ xs = [x, .ty (tyId t)] ∧ ans G F H Q (isiEv d t)
theorem call_isD (t : Ty) : CallR X (.builtin "isinstance") (rIsD (gx X) t) := by
  intro pins s σ H xs us Q I r h
  obtain ⟨F, d, x, sF, b, rfl, o⟩ := h
  obtain ⟨u1, u2, rfl, r1, r2⟩ := vals2 r
  unfold isiEv at o
  split at o
  · rename_i hp
    have r2 : u2 = .type (tyId t) := r2
    subst r2
    obtain ⟨as, rd⟩ := Dp.reads I _ x u1 (dp_bor sF hp b) r1
    have fin : ∀ (k : Bool) (tk : Nat), okW (gx X) F H Q (boolW k) → EP X pins σ Q (.bool k) { s with toks := tk } := fun k tk q => ⟨.bl k, H, I.tok tk, rfl, okW.scal q sF fun _ => rfl⟩
    cases t
    · refine PySem.W.isinstance_int_data rd fun tk _ => ?_
      cases d <;> exact fin _ tk o
    · refine PySem.W.isinstance_bool_data rd fun tk _ => ?_
      cases d <;> exact fin _ tk o
    · refine PySem.W.isinstance_str_data rd fun tk _ => ?_
      cases d <;> exact fin _ tk o
    · refine PySem.W.isinstance_tuple_data rd fun tk _ => ?_
      cases d <;> exact fin _ tk o
    · refine PySem.W.isinstance_list_data rd fun tk _ => ?_
      cases d <;> exact fin _ tk o
    · refine PySem.W.isinstance_dict_data rd fun tk _ => ?_
      cases d <;> first | exact fin _ tk o | (exfalso; simp [D.pl, NEST] at hp)
  · exact o.elim
theorem boot_ty (t : Ty) : bootBuiltins (tyName t) = some (.type (tyId t)) := by
  cases t <;> decide +kernel
theorem d_isi (t : Ty) {p p2 : Pos} (hgl : Gl X ("isinstance" : Str)) (hm : X.mg ("isinstance" : Str) = none) (hg2 : Gl X (tyName t)) (hm2 : X.mg (tyName t) = none) (ha : PE X a (tBo (gx X) Wx fa la)) (he : nst a = true) :
    PE X (.Call (.Name ("isinstance" : Str) p) [a, .Name (tyName t) p2] [] pos) (tD (gx X) Wx fun ρ => (fa ρ).bind fun u => isiEv u t) := by
  have hs : starEach [a, .Name (tyName t) p2] X.env = (false, eval a X.env) :: starEach [.Name (tyName t) p2] X.env := by
    cases a <;> first | rfl | cases he
  have hn : (tyName t) ≠ "__name__" := by cases t <;> decide +kernel
  have hd : ((tyName t) == ("__debug__" : Str)) = false := by cases t <;> decide +kernel
  refine PE_imp (pe_callB (call_isD t) hgl hm (by decide +kernel) (pa_cons ha (pa_cons (pe_bltn hg2 hm2 (boot_ty t) (v := .ty (tyId t)) rfl hn hd) pa_nil) hs) (by decide +kernel) (by decide +kernel) hs rfl) fun σ H Q ⟨F0, H0, F, ρ, R, o⟩ => ?_
  refine ⟨F0, H0, F, ρ, R, o.bind.imp (fun u _ o2 => ?_) (fun _ h => h)⟩
  intro F1 H1 x E1 bx _
  refine ⟨F1, u, x, E1.fh, bx, rfl, (Out.nox o2 ?_).imp (fun w _ q => q.ext E1) fun _ h => h⟩
  unfold isiEv
  split <;> exact fun c => by simp
def tSortSet (K : PySem.W.Frag) (ta : TE) : TE := fun σ H Q => ta σ H fun x H1 => ∃ (l : Addr) (ns : List Int), x = .ref l ∧ SqT K H1 l (ns.map V.int) ∧ ns.length < 60 ∧
  ∀ (ms : List Int) (p : Addr), ms.Pairwise (· < ·) → (∀ k : Int, k ∈ ms ↔ k ∈ ns) → H1 p = none → Q (.ref p) (upd H1 p (.lst (ms.map V.int)))
theorem pe_sortset {ta : TE} {p p2 q : Pos} (hc : X.calm = true) (hg : Gl X "sorted") (hm : X.mg "sorted" = none) (hg2 : Gl X "set") (hm2 : X.mg "set" = none) (ha : PE X a ta) (na : starEach [a] X.env = (false, eval a X.env) :: starEach [] X.env) :
    PE X (.Call (.Name "sorted" p) [.Call (.Name "set" p2) [a] [] q] [] pos) (tSortSet X.K ta) := by
  refine ⟨fun pins s σ H Q I h => ?_⟩
  refine Call_ (ld_blt I hg hm (u := .builtin "sorted") (by decide +kernel) (PyProof.Rows.callWith_builtin1 (PyProof.Rows.args_cons (?_ : wpAny _ _ _ _ _ _) rfl) rfl rfl))
  refine Call_ (ld_blt I hg2 hm2 (u := .type "set") (by decide +kernel) (PyProof.Rows.callWith_type1 (PyProof.Rows.args_cons (thn (ha.run pins s σ H _ I h) fun v s1 ⟨x, H1, I1, r1, q1⟩ => PyProof.Rows.args_nil ?_) na) na rfl))
  obtain ⟨l, ns, rfl, hq, hl, q1⟩ := q1
  cases r1
  obtain ⟨its, r, pt, hz⟩ := I1.tuple hq
  refine call_set_tupI ns (I1.ok.hd hc) pt (by simpa using vals_intsAre r) (by unfold PySem.scanBound; omega) fun h' tk c hS hcl hk => PyProof.Rows.args_nil ?_
  have I2 : Inv X pins σ H1 { s1 with heap := h', toks := tk } := I1.kept fun b o e => hk b o e
  refine sorted_set hS (I2.ok.hd hc) (by omega) fun s' p out c2 ms k g o hp hgt hi hsr hme hln => ?_
  have hno : H1 p = none := I2.hok.fresh hp
  have hsz : (ms.map V.int).length ≤ sizeLine := by rw [List.length_map, hln, sizeLine_eq]; omega
  generalize ({ s1 with heap := h', toks := tk } : Shared) = s2 at I2 k g o hp
  have J : Inv X pins σ (upd H1 p (.lst (ms.map V.int))) { s2 with heap := s'.heap, gens := s'.gens, drawn := s'.drawn, toks := s'.toks } := by
    refine I2.call (ch := []) (Un.laid k hp hno) (I2.hok.laid k hp ⟨hsz, out.toList, c2, vals_of_ints hi, hgt⟩) (by rw [g]; exact I2.bare) (fun _ z => nomatch z)
  have e : s' = { s2 with heap := s'.heap, gens := s'.gens, drawn := s'.drawn, toks := s'.toks } := by
    cases s'; cases s2; cases o; rfl
  rw [e]
  exact ⟨.ref p, _, J, rfl, q1 ms p hsr (fun j => by rw [hme]; simp) hno⟩
def tChain3 (r1 r2 r3 : R2) (ta tb tc td : TE) : TE := fun σ H Q => ta σ H fun x H1 => tb σ H1 fun y H2 => r1 x y H2 fun z H3 => ∃ k, z = .bl k ∧
  (if k = true then tc σ H3 fun w H4 => r2 y w H4 fun z2 H5 => ∃ k2, z2 = .bl k2 ∧ (if k2 = true then td σ H5 fun u H6 => r3 w u H6 Q else Q (.bl false) H5) else Q (.bl false) H3)
theorem pe_chain3 {o1 o2 o3 : CmpOp} {r1 r2 r3 : R2} {ta tb tc td : TE} (h1 : OpR X (compareOp o1) r1) (h2 : OpR X (compareOp o2) r2) (h3 : OpR X (compareOp o3) r3) (ha : PE X a ta) (hb : PE X b tb) (hc : PE X c tc) (hd : PE X d td) (hm : lastMarks [o1, o2, o3] [b, c, d] = false) :
    PE X (.Compare a [o1, o2, o3] [b, c, d] pos) (tChain3 r1 r2 r3 ta tb tc td) := by
  refine ⟨fun pins s σ H Q I h => ?_⟩
  refine Compare_chain (thn (ha.run pins s σ H _ I h) fun v1 s1 ⟨x, H1, I1, e1, q1⟩ => chain_link (thn (hb.run pins s1 σ H1 _ I1 q1) fun v2 s2 ⟨y, H2, I2, e2, q2⟩ => thn (h1 pins s2 σ H2 x y v1 v2 _ I2 e1 e2 q2) fun w1 s3 ⟨z, H3, I3, e3, k, ez, q3⟩ => ?_)) hm
  subst ez; cases e3
  refine wpAny_truthy_bool ?_
  cases k with
  | false => exact ite_ff ⟨.bl false, H3, I3, rfl, q3⟩
  | true =>
    refine ite_tt (chain_link (thn (hc.run pins s3 σ H3 _ I3 q3) fun v3 s4 ⟨w, H4, I4, e4, q4⟩ => thn (h2 pins s4 σ H4 y w v2 v3 _ I4 e2 e4 q4) fun w2 s5 ⟨z2, H5, I5, e5, k2, ez2, q5⟩ => ?_))
    subst ez2; cases e5
    refine wpAny_truthy_bool ?_
    cases k2 with
    | false => exact ite_ff ⟨.bl false, H5, I5, rfl, q5⟩
    | true => exact ite_tt (chain_last (thn (hd.run pins s5 σ H5 _ I5 q5) fun v4 s6 ⟨u, H6, I6, e6, q6⟩ => h3 pins s6 σ H6 w u v3 v4 Q I6 e4 e6 q6))
theorem pt_chain3 {o1 o2 o3 : CmpOp} {r1 r2 r3 : R2} {ta tb tc td : TE} (h1 : OpR X (compareOp o1) r1) (h2 : OpR X (compareOp o2) r2) (h3 : OpR X (compareOp o3) r3) (ha : PE X a ta) (hb : PE X b tb) (hc : PE X c tc) (hd : PE X d td) (hm : lastMarks [o1, o2, o3] [b, c, d] = false) :
    PT X (.Compare a [o1, o2, o3] [b, c, d] pos) (tTest (tChain3 r1 r2 r3 ta tb tc td)) := by
  refine ⟨fun pins s σ H Q I h => ?_⟩
  refine isTrue_chain (thn (ha.run pins s σ H _ I h) fun v1 s1 ⟨x, H1, I1, e1, q1⟩ => test_link (thn (hb.run pins s1 σ H1 _ I1 q1) fun v2 s2 ⟨y, H2, I2, e2, q2⟩ => thn (h1 pins s2 σ H2 x y v1 v2 _ I2 e1 e2 q2) fun w1 s3 ⟨z, H3, I3, e3, k, ez, q3⟩ => ?_)) hm
  subst ez; cases e3
  refine wpAny_truthy_bool ?_
  cases k with
  | false =>
    obtain ⟨j, ej, qj⟩ := q3
    cases ej
    exact ite_ff ⟨H3, I3, qj⟩
  | true =>
    refine ite_tt (test_link (thn (hc.run pins s3 σ H3 _ I3 q3) fun v3 s4 ⟨w, H4, I4, e4, q4⟩ => thn (h2 pins s4 σ H4 y w v2 v3 _ I4 e2 e4 q4) fun w2 s5 ⟨z2, H5, I5, e5, k2, ez2, q5⟩ => ?_))
    subst ez2; cases e5
    refine wpAny_truthy_bool ?_
    cases k2 with
    | false =>
      obtain ⟨j, ej, qj⟩ := q5
      cases ej
      exact ite_ff ⟨H5, I5, qj⟩
    | true =>
      refine ite_tt (test_last (thn (hd.run pins s5 σ H5 _ I5 q5) fun v4 s6 ⟨u, H6, I6, e6, q6⟩ => thn (h3 pins s6 σ H6 w u v3 v4 _ I6 e4 e6 q6) fun w3 s7 ⟨z3, H7, I7, e7, k3, ez3, q7⟩ => ?_))
      subst ez3; cases e7
      exact wpAny_truthy_bool ⟨H7, I7, q7⟩
def ch3 (o1 o2 o3 : CmpOp) (fa fb fc fd : En → R D) : En → R W := fun ρ => (fa ρ).bind fun x => (fb ρ).bind fun y => (cmpEv o1 x y).bind fun k =>
  if k = true then (fc ρ).bind fun z => (cmpEv o2 y z).bind fun k2 => if k2 = true then (fd ρ).bind fun u => (cmpEv o3 z u).map boolW else .ok (boolW false) else .ok (boolW false)
theorem four (hu : X.A.units + 64 < cLine) {o1 o2 o3 : CmpOp} {σ : L2.St} {H : Hp} {Q : VK} (h : tD (gx X) Wx (ch3 o1 o2 o3 fa fb fc fd) σ H Q) :
    tChain3 (rC2 (gx X) (cmpEv o1)) (rC2 (gx X) (cmpEv o2)) (rC2 (gx X) (cmpEv o3)) (tBo (gx X) Wx fa la) (tBo (gx X) Wx fb lb) (tBo (gx X) Wx fc lc) (tBo (gx X) Wx fd ld) σ H Q := by
  obtain ⟨F0, H0, F, ρ, R, o⟩ := h
  unfold ch3 at o
  refine ⟨F0, H0, F, ρ, R, o.bind.imp (fun u _ p2 => ?_) (fun _ h => h)⟩
  intro F1 H1 x E1 bx _
  refine ⟨F0, H0, F1, ρ, R.ext E1, (Out.bind p2).imp (fun v _ p4 => ?_) (fun _ h => h.ext E1)⟩
  intro F2 H2 y E2 by2 _
  refine ⟨F2, u, v, E2.fh, bx.mono E2.ff E2.hh, by2, (Out.nox (Out.bind p4) (nox_cmp o1 u v)).imp (fun k _ p5 => ?_) fun _ h => h⟩
  refine ⟨k, rfl, ?_⟩
  cases k with
  | false => exact okW.scal (okW.ext (show okW (gx X) F H Q (boolW false) from p5) (E1.trans E2)) E2.fh fun _ => rfl
  | true =>
    have p6 : Out ((fc ρ).bind fun z => (cmpEv o2 v z).bind fun k2 => if k2 = true then (fd ρ).bind fun u => (cmpEv o3 z u).map boolW else .ok (boolW false)) (okW (gx X) F H Q) (fun c => Thr (gx X) Wx c F σ H) := p5
    refine ⟨F0, H0, F2, ρ, (R.ext E1).ext E2, p6.bind.imp (fun z _ p7 => ?_) (fun _ h => (h.ext E1).ext E2)⟩
    intro F3 H3 w E3 bz _
    refine ⟨F3, v, z, E3.fh, by2.mono E3.ff E3.hh, bz, (Out.nox (Out.bind p7) (nox_cmp o2 v z)).imp (fun k2 _ p8 => ?_) fun _ h => h⟩
    refine ⟨k2, rfl, ?_⟩
    cases k2 with
    | false => exact okW.scal (okW.ext (show okW (gx X) F H Q (boolW false) from p8) ((E1.trans E2).trans E3)) E3.fh fun _ => rfl
    | true =>
      have p9 : Out ((fd ρ).bind fun u => (cmpEv o3 z u).map boolW) (okW (gx X) F H Q) (fun c => Thr (gx X) Wx c F σ H) := p8
      refine ⟨F0, H0, F3, ρ, ((R.ext E1).ext E2).ext E3, p9.bind.imp (fun t _ p10 => ?_) (fun _ h => ((h.ext E1).ext E2).ext E3)⟩
      intro F4 H4 w2 E4 bt _
      have p11 := Out.nox (Out.map p10) (thr' := fun _ => False) (nox_cmp o3 z t)
      exact ⟨F4, z, t, E4.fh, bz.mono E4.ff E4.hh, bt, p11.imp (fun k _ q => okW.scal (okW.ext q (((E1.trans E2).trans E3).trans E4)) E4.fh fun _ => rfl) fun _ h => h⟩
theorem d_chain3 (hu : X.A.units + 64 < cLine) (o1 o2 o3 : CmpOp) (hm : lastMarks [o1, o2, o3] [b, c, d] = false) (ha : PE X a (tBo (gx X) Wx fa la)) (hb : PE X b (tBo (gx X) Wx fb lb)) (hc : PE X c (tBo (gx X) Wx fc lc)) (hd : PE X d (tBo (gx X) Wx fd ld)) :
    PE X (.Compare a [o1, o2, o3] [b, c, d] pos) (tD (gx X) Wx (ch3 o1 o2 o3 fa fb fc fd)) :=
  PE_imp (pe_chain3 (cmp_ok hu o1) (cmp_ok hu o2) (cmp_ok hu o3) ha hb hc hd hm) fun σ H Q h => four hu h
theorem t_chain3 (hu : X.A.units + 64 < cLine) (o1 o2 o3 : CmpOp) (hm : lastMarks [o1, o2, o3] [b, c, d] = false) (ha : PE X a (tBo (gx X) Wx fa la)) (hb : PE X b (tBo (gx X) Wx fb lb)) (hc : PE X c (tBo (gx X) Wx fc lc)) (hd : PE X d (tBo (gx X) Wx fd ld)) :
    PT X (.Compare a [o1, o2, o3] [b, c, d] pos) (tTt (gx X) Wx fun ρ => tru (ch3 o1 o2 o3 fa fb fc fd ρ)) :=
  PT_imp (pt_chain3 (cmp_ok hu o1) (cmp_ok hu o2) (cmp_ok hu o3) ha hb hc hd hm) fun σ H Q h => four hu (tru_D h)
theorem reps_rng {G : Gx} {F : Hp} : ∀ (n : Nat) (i : Int), Reps G F (intsTo i n) ((List.range n).map fun k : Nat => V.int (i + (k : Int)))
  | 0, _ => rfl
  | n + 1, i => by
    rw [List.range_succ_eq_map, List.map_cons, List.map_map]
    refine ⟨.int i, _, by simp; rfl, rfl, ?_⟩
    have e : (List.range n).map ((fun k : Nat => V.int (i + (k : Int))) ∘ Nat.succ) = (List.range n).map fun k : Nat => V.int (i + 1 + (k : Int)) := by
      apply List.map_congr_left
      intro k _
      simp only [Function.comp_apply, V.int.injEq]
      push_cast
      omega
    rw [e]
    exact reps_rng n (i + 1)
theorem d_listrange {p p2 q : Pos} (hc : X.calm = true) (hg : Gl X "list") (hm : X.mg "list" = none) (hg2 : Gl X "range") (hm2 : X.mg "range" = none) (ha : PE X a (tBo (gx X) Wx fa la)) (hb : PE X b (tBo (gx X) Wx fb lb)) (na : nst a = true) (nb : nst b = true) :
    PE X (.Call (.Name "list" p) [.Call (.Name "range" p2) [a, b] [] q] [] pos) (tD (gx X) Wx fun ρ => (fa ρ).bind fun u => (fb ρ).bind fun v => listrangeEv [u, v]) :=
  PE_imp (pe_listRg hc hg hm (prg_2 hg2 hm2 ha hb (na := by cases a <;> first | rfl | cases na) (nb := starEach_one nb) (hp := by rw [starEach_one nb]; rfl)) rfl) fun σ H Q ⟨F0, H0, F, ρ, R, o⟩ => by
    refine ⟨F0, H0, F, ρ, R, o.bind.imp (fun u _ p2 => ?_) (fun _ h => h)⟩
    intro F1 H1 x E1 bx _
    refine ⟨F0, H0, F1, ρ, R.ext E1, (Out.bind p2).imp (fun v _ p4 => ?_) (fun _ h => h.ext E1)⟩
    intro F2 H2 y E2 by2 _
    have p5 := Out.nox (thr' := fun _ => False) p4 (nox_bi .listrange [u, v])
    have p6 : Out (listrangeEv [u, v]) (okW (gx X) F H Q) (fun _ => False) := p5
    cases u with
    | int i =>
      cases v with
      | int j =>
        have p7 : Out (if rngOk i j = true then G81.R.ok (W.fl (intsTo i (j - i).toNat)) else .stuck) (okW (gx X) F H Q) (fun _ => False) := p6
        split at p7
        · rename_i hr
          have ex : x = .int i := bx
          have ey : y = .int j := by2
          subst ex; subst ey
          have hr2 : -1000000 ≤ i ∧ i ≤ 1000000 ∧ -1000000 ≤ j ∧ j ≤ 1000000 := by
            simp only [rngOk, Bool.and_eq_true, decide_eq_true_eq] at hr
            omega
          refine ⟨i, j, rfl, rfl, ⟨by omega, by omega, by omega, by omega, by omega⟩, fun q hq => ?_⟩
          have okk : okW (gx X) F H Q (W.fl (intsTo i (j - i).toNat)) := p7
          exact okW.fl (okW.ext okk (E1.trans E2)) E2.fh (reps_rng _ _) hq
        · exact p7.elim
      | _ => exact (show False from p6).elim
    | _ => exact (show False from p6).elim
end
end G81
end
section
set_option Elab.async false
set_option linter.all false
set_option maxHeartbeats 8000000
set_option maxRecDepth 100000
namespace G81
open PySem PySem.Spec PyProof.Rows L2
/-- a set that was just made -/
abbrev eo (w : World) : Obj := { cls := .type "set", dict := none, data := .set #[] 0 (.fresh 0 0 (!w.params.followText "set-order")) }
section
variable {P : Program} {w : World} {A : Around} {E : Value → Shared → Prop} {s : Shared}
/-- set.__init__(the new set, a list): what it leaves -/
def SetLeft (w : World) (s : Shared) (ns : List Int) (v : Value) (t : Shared) : Prop :=
  v = .none ∧ ∃ g k c, t = { s with heap := g, toks := k } ∧ SetR w g s.heap.objs.size (fun j => decide (j ∈ ns)) c ∧ c ≤ ns.length ∧ ∀ b o, s.heap.get? b = some o → g.get? b = some o
theorem init_lst {l : Addr} {xs : Array Value} (ns : List Int) (hh : A.handled = none) (hl : s.heap.IsList l xs) (hi : IntsAre xs.toList ns) (hb : ns.length + 1 < scanBound) :
    wpAny (model P w) A.in1 (Builtin.«set.__init__» ⟨[.ref s.heap.objs.size, .ref l], []⟩) (fun f t => ∃ v, f = .done (.ret v) ∧ SetLeft w s ns v t) E { s with heap := s.heap.push (eo w) } := by
  have zs : xs.size = ns.length := by
    have q := IntsAre.length hi
    rwa [Array.length_toList] at q
  have pS : (s.heap.push (eo w)).get? s.heap.objs.size = some (eo w) := Heap.get?_push_size _ rfl
  have pT : Shared.TypeIs { s with heap := s.heap.push (eo w) } (.ref s.heap.objs.size) "set" := ⟨_, pS, rfl⟩
  obtain ⟨⟨oc, od, dt, os⟩, hol, hcl, nl, hdl⟩ := hl
  simp only at hcl hdl
  subst hcl hdl
  have pl : (s.heap.push (eo w)).get? l = some ⟨.type "list", od, .seq xs nl, os⟩ := Heap.get?_push_of_some _ hol
  have s1 := F.sub_list_set
  have s2 := F.sub_list_frozenset
  have s3 : (Value.type "list" == Value.type "dict") = false := by decide
  have pL : (s.heap.push (eo w)).IsList l xs := ⟨_, pl, rfl, nl, rfl⟩
  unfold Builtin.«set.__init__» noKeywords Builtin.Frozenset.updateFrom; generalize hp : pyIter = PI; wp_walk; subst hp
  have lS : l < s.heap.objs.size := Heap.lt_size hol
  have zz : (s.heap.push (eo w)).objs.size = s.heap.objs.size + 1 := Heap.size_push ..
  have nI : l ≠ (s.heap.push (eo w)).objs.size := zz ▸ Nat.ne_of_lt (Nat.lt_succ_of_lt lS)
  have nS : s.heap.objs.size ∉ [(s.heap.push (eo w)).objs.size, l] := by
    rw [zz, List.mem_cons, List.mem_singleton]
    exact fun q => q.elim (Nat.ne_of_lt (Nat.lt_succ_self _)) (Nat.ne_of_gt lS)
  have hval : ∀ (i : Nat) (v : Value), xs[i]? = some v → ∃ k t, ns[i]? = some k ∧ v = .int k t := fun i v hv => by
    have hlt : i < ns.length := by
      have := (Array.getElem?_eq_some_iff.mp hv).1
      omega
    obtain ⟨t, e⟩ := IntsAre.int_at hi i v (by rw [Array.getElem?_toList]; exact hv)
    refine ⟨ns[i], t, List.getElem?_eq_getElem hlt, ?_⟩
    rw [e, List.getD_eq_getElem?_getD, List.getElem?_eq_getElem hlt]
    rfl
  refine wpAny_pyIter_list pL (wpAny_bind (wpAny_runValue ?_))
  refine set_update_ints (Walks.list (by simpa using hh) _ l nI xs).toS s.heap.objs.size nS ns zs hb hval (xs.size - 0) 0 _ (by omega) (Nat.zero_le _) ⟨⟨_, Heap.get?_push_size _ rfl, rfl, rfl⟩, pL.push _⟩ ⟨0, Nat.le_refl 0, setR_new_at (Heap.get?_push_of_some _ pS)⟩ fun t c hm hc hR => ?_
  obtain ⟨g, g2, d2, k2, o2⟩ := t
  have y1 : g2 = s.gens := hm.gens
  have y2 : d2 = s.drawn := hm.drawn
  have y3 : o2 = s.os := hm.os
  subst y1 y2 y3
  refine wpAny_pure (?_ : wpAny _ _ (ret Value.none) _ _ _)
  refine wpAny_pure ⟨_, rfl, rfl, g, k2, c, rfl, hR, by omega, fun b o e => ?_⟩
  have lb : b < s.heap.objs.size := Heap.lt_size e
  refine hm.heap b o ?_ (Heap.get?_push_of_some _ (Heap.get?_push_of_some _ e))
  rw [zz, List.mem_cons, List.mem_singleton]
  exact fun q => q.elim (Nat.ne_of_lt lb) (Nat.ne_of_lt (Nat.lt_succ_of_lt lb))
/-- set(a list of whole numbers) -/
theorem call_set_lst {l : Addr} {xs : Array Value} (ns : List Int) {Q : Value → Shared → Prop} (hh : A.handled = none) (hl : s.heap.IsList l xs) (hi : IntsAre xs.toList ns) (hb : ns.length + 1 < scanBound)
    (h : ∀ g k c, SetR w g s.heap.objs.size (fun j => decide (j ∈ ns)) c → c ≤ ns.length → (∀ b o, s.heap.get? b = some o → g.get? b = some o) → Q (.ref s.heap.objs.size) { s with heap := g, toks := k }) : wpAny (model P w) A (call (.type "set") [.ref l]) Q E s := by
  obtain ⟨c0, tl, c1⟩ := F.called_set.mro
  have c2 := F.called_set.made
  have c3 := F.called_set.sub
  have c4 := F.called_set.notType
  have c5 := F.called_set.canCreate
  have c6 := F.typeCall_set_1 (.ref l)
  refine wpAny_call (codeAny_of_tree (?_ : wpAny _ _ (callAny (.type "set") _) _ _ _))
  refine wpAny_pure ⟨Code.quiet_builtin _ (by decide +kernel), codeAny_builtin F.entry_type_call ?_⟩
  rw [Around.under_plain (weight_type_call_type "set" [.ref l] []) rfl]
  repeat (any_goals (first | assumption | wp_step))
  refine codeAny_mono (code_set_led1 (.ref l) (E := E) (Q₁ := fun v t => v = .ref s.heap.objs.size ∧ t = { s with heap := s.heap.push (eo w) }) ⟨rfl, rfl⟩) fun r t hr => ?_
  match r, hr with
  | .error e, hr => exact hr
  | .ok (.ret v), hr =>
    obtain ⟨rfl, rfl⟩ := hr
    have pS : (s.heap.push (eo w)).get? s.heap.objs.size = some (eo w) := Heap.get?_push_size _ rfl
    have pT : Shared.TypeIs { s with heap := s.heap.push (eo w) } (.ref s.heap.objs.size) "set" := ⟨_, pS, rfl⟩
    have d1 := F.called_set.init.lookup
    have d2 := F.called_set.init.bind (.ref s.heap.objs.size)
    repeat (any_goals (first | assumption | wp_step))
    refine codeAny_mono (codeAny_call_builtin (R := wants (SetLeft w s ns) E) F.called_set.init.plain F.entry_set_init (check_set_init_1 pT ?_)) fun r2 t2 hr2 => ?_
    · refine wpAny_mono (init_lst (A := A.in1) ns (by simpa using hh) hl hi hb) (fun f t q => ?_) fun _ _ e => e
      obtain ⟨v, rfl, q⟩ := q
      exact q
    · match r2, hr2 with
      | .error e, hr2 => exact hr2
      | .ok (.ret v), hr2 =>
        obtain ⟨rfl, g, k, c, rfl, k1, k2, k3⟩ := hr2
        repeat (any_goals (first | assumption | wp_step))
        exact h _ _ _ k1 k2 k3
end
section
variable {X : Cx} {Wx : WX} {a : Expr} {pos : Pos} {fa : En → G81.R D} {la : En → Bool}
def tSortSet2 (K : PySem.W.Frag) (ta : TE) : TE := fun σ H Q => ta σ H fun x H1 => ∃ (l : Addr) (ns : List Int), x = .ref l ∧ (SqT K H1 l (ns.map V.int) ∨ SqL K H1 l (ns.map V.int)) ∧ ns.length < 60 ∧
  ∀ (ms : List Int) (p : Addr), ms.Pairwise (· < ·) → (∀ k : Int, k ∈ ms ↔ k ∈ ns) → H1 p = none → Q (.ref p) (upd H1 p (.lst (ms.map V.int)))
theorem pe_sortset2 {ta : TE} {p p2 q : Pos} (hc : X.calm = true) (hg : Gl X "sorted") (hm : X.mg "sorted" = none) (hg2 : Gl X "set") (hm2 : X.mg "set" = none) (ha : PE X a ta) (na : starEach [a] X.env = (false, eval a X.env) :: starEach [] X.env) :
    PE X (.Call (.Name "sorted" p) [.Call (.Name "set" p2) [a] [] q] [] pos) (tSortSet2 X.K ta) := by
  refine ⟨fun pins s σ H Q I h => ?_⟩
  refine Call_ (ld_blt I hg hm (u := .builtin "sorted") (by decide +kernel) (PyProof.Rows.callWith_builtin1 (PyProof.Rows.args_cons (?_ : wpAny _ _ _ _ _ _) rfl) rfl rfl))
  refine Call_ (ld_blt I hg2 hm2 (u := .type "set") (by decide +kernel) (PyProof.Rows.callWith_type1 (PyProof.Rows.args_cons (thn (ha.run pins s σ H _ I h) fun v s1 ⟨x, H1, I1, r1, q1⟩ => PyProof.Rows.args_nil ?_) na) na rfl))
  obtain ⟨l, ns, rfl, hq, hl, q1⟩ := q1
  cases r1
  have fin : ∀ (h' : Heap) (tk c : Nat), SetR X.w h' s1.heap.objs.size (fun j => decide (j ∈ ns)) c → c ≤ ns.length → (∀ b o, s1.heap.get? b = some o → h'.get? b = some o) → wpAny (model X.prog X.w) X.A (call (.builtin "sorted") [.ref s1.heap.objs.size]) (EP X pins σ Q) X.xe { s1 with heap := h', toks := tk } := by
    intro h' tk c hS hcl hk
    have I2 : Inv X pins σ H1 { s1 with heap := h', toks := tk } := I1.kept fun b o e => hk b o e
    refine sorted_set hS (I2.ok.hd hc) (by omega) fun s' p out c2 ms k g o hp hgt hi hsr hme hln => ?_
    have hno : H1 p = none := I2.hok.fresh hp
    have hsz : (ms.map V.int).length ≤ sizeLine := by rw [List.length_map, hln, sizeLine_eq]; omega
    generalize ({ s1 with heap := h', toks := tk } : Shared) = s2 at I2 k g o hp
    have J : Inv X pins σ (upd H1 p (.lst (ms.map V.int))) { s2 with heap := s'.heap, gens := s'.gens, drawn := s'.drawn, toks := s'.toks } := by
      refine I2.call (ch := []) (Un.laid k hp hno) (I2.hok.laid k hp ⟨hsz, out.toList, c2, vals_of_ints hi, hgt⟩) (by rw [g]; exact I2.bare) (fun _ z => nomatch z)
    have e : s' = { s2 with heap := s'.heap, gens := s'.gens, drawn := s'.drawn, toks := s'.toks } := by
      cases s'; cases s2; cases o; rfl
    rw [e]
    exact ⟨.ref p, _, J, rfl, q1 ms p hsr (fun j => by rw [hme]; simp) hno⟩
  rcases hq with hq | hq
  · obtain ⟨its, r, pt, hz⟩ := I1.tuple hq
    exact call_set_tupI ns (I1.ok.hd hc) pt (by simpa using vals_intsAre r) (by unfold PySem.scanBound; omega) fun h' tk c hS hcl hk => PyProof.Rows.args_nil (fin h' tk c hS hcl hk)
  · obtain ⟨its, r, pt, hz⟩ := I1.list hq
    exact call_set_lst ns (I1.ok.hd hc) pt.isList (by simpa using vals_intsAre r) (by unfold PySem.scanBound; omega) fun h' tk c hS hcl hk => PyProof.Rows.args_nil (fin h' tk c hS hcl hk)
end
end G81
end
section
set_option Elab.async false
set_option linter.all false
set_option maxHeartbeats 8000000
set_option maxRecDepth 100000
namespace G81
open PySem PySem.Spec PyProof.Rows L2
def keyS (e : Int × Value) : Str := match e.2 with
  | .str k _ => k
  | _ => ⟨#[]⟩
def GoodS (w : World) (e : Int × Value) : Prop := ∃ k tk, e.2 = Value.str k tk ∧ e.1 = hashStr w k
def SetS (w : World) (h : Heap) (a : Addr) (S : Str → Bool) (n : Nat) : Prop :=
  ∃ o es ep t, h.get? a = some o ∧ o.ExactSet ∧ o.data = .set es ep t ∧ (∀ e ∈ es.toList, GoodS w e) ∧ (es.toList.map keyS).Nodup ∧ (∀ k, S k = true ↔ k ∈ es.toList.map keyS) ∧
    es.size < scanBound ∧ t.fits es.size = true ∧ es.size = n ∧ Ris t.place.toList ∧ (w.params.followText "set-order" = true ∨ t.led = true)

section
variable {P : Program} {w : World} {h g' : Heap} {a : Addr} {S : Str → Bool} {n : Nat}

theorem SetS.at (R : SetS w h a S n) (k : ∀ o, h.get? a = some o → g'.get? a = some o) : SetS w g' a S n := by
  obtain ⟨o, es, ep, t, pO, r⟩ := R
  exact ⟨o, es, ep, t, k o pO, r⟩
theorem SetS.lt (R : SetS w h a S n) : a < h.objs.size := by
  obtain ⟨o, es, ep, t, pO, r⟩ := R
  exact Heap.lt_size pO
theorem SetS.congr {S' : Str → Bool} (R : SetS w h a S n) (e : ∀ k, S' k = S k) : SetS w h a S' n := by
  have q : S' = S := funext e
  rw [q]; exact R
theorem goodS_elems {l : List (Int × Value)} (g : ∀ e ∈ l, GoodS w e) : ElemsOf (strKind P w) l := fun e he => by
  obtain ⟨k, tk, h1, h2⟩ := g e he
  exact ⟨⟨k, by rw [h1]; exact strKind_is P w k tk, h2⟩, by rw [h1] <;> rfl⟩
theorem goodS_is {e : Int × Value} (g : GoodS w e) (k : Str) : (strKind P w).is k e.2 = true ↔ keyS e = k := by
  obtain ⟨k0, tk, h1, _⟩ := g
  unfold keyS
  rw [h1]
  show ((k0 == k) = true) ↔ k0 = k
  exact beq_iff_eq
theorem goodS_mem {l : List (Int × Value)} (g : ∀ e ∈ l, GoodS w e) (k : Str) : k ∈ l.map keyS ↔ ∃ e ∈ l, (strKind P w).is k e.2 = true := by
  rw [List.mem_map]
  constructor
  · rintro ⟨e, he, q⟩
    exact ⟨e, he, (goodS_is (g e he) k).2 q⟩
  · rintro ⟨e, he, q⟩
    exact ⟨e, he, (goodS_is (g e he) k).1 q⟩
theorem SetS.setOf (R : SetS w h a S n) : h.SetOf (strKind P w) a S n := by
  obtain ⟨o, es, ep, t, pO, hx, pD, g, pU, pM, pB, pF, pN, _⟩ := R
  exact ⟨o, es, ep, t, pO, hx, pD, goodS_elems g, fun k => (pM k).trans (goodS_mem g k), pB, pF, pN⟩
end

section
variable {P : Program} {w : World} {A : Around} {E : Value → Shared → Prop} {s : Shared} {a : Addr} {S : Str → Bool} {n : Nat}

theorem setS_tail {g : Bool → Sem Unit} (hg : ∀ (b : Bool) (s₁ : Shared) (Q' : Unit → Shared → Prop), Q' () s₁ → wpAny (model P w) A (g b) Q' E s₁)
    {o : Obj} {es : Array (Int × Value)} {ep : Nat} {t : SetTable} (pO : s.heap.get? a = some o) (pX : o.ExactSet) (pD : o.data = .set es ep t)
    {eA : Array (Int × Value)} {tB : SetTable} {S' : Str → Bool} (gA : ∀ e ∈ eA.toList, GoodS w e) (uA : (eA.toList.map keyS).Nodup) (mA : ∀ k, S' k = true ↔ k ∈ eA.toList.map keyS)
    (bA : eA.size < scanBound) (fB : tB.fits eA.size = true) (pR : Ris tB.place.toList) (pL : w.params.followText "set-order" = true ∨ tB.led = true) {wD : Bool} {R : Option Bool → Shared → Prop}
    (kR : ∀ g', Heap.SameBut a s.heap g' → SetS w g' a S' eA.size → R (some true) { s with heap := g' }) :
    wpAny (model P w) A (do
        storeSet a eA tB
        if (!wD && tB.tooFull) = true then do
            g (relayAll tB eA (SetTable.grown eA.size)).2.2
            storeSet a (relayAll tB eA (SetTable.grown eA.size)).1 (relayAll tB eA (SetTable.grown eA.size)).2.1
            pure (some true)
          else pure (some true)) R E s := by
  refine wpAny_bind (wpAny_storeSet_of pO pD ?_ (fits_of_scanBound bA))
  have oA := L2.store_at (es' := eA) (t' := tB) pO pD
  have sA := Heap.SameBut.update s.heap a (Obj.putSet eA tB)
  split
  · have per := relayAll_perm tB eA (SetTable.grown eA.size)
    have fC := relayAll_fits tB eA (SetTable.grown eA.size)
    have rC := relayAll_ris tB eA (SetTable.grown eA.size)
    have lC := relayAll_led tB eA (SetTable.grown eA.size)
    generalize relayAll tB eA (SetTable.grown eA.size) = Z at per fC rC lC ⊢
    obtain ⟨eB, tC, gv⟩ := Z
    dsimp only at per fC rC lC ⊢
    have sZ : eB.size = eA.size := by rw [← Array.length_toList, per.length_eq, Array.length_toList]
    have bB : eB.size < scanBound := by rw [sZ]; exact bA
    refine wpAny_bind (hg _ _ _ ?_)
    refine wpAny_bind (wpAny_storeSet_of oA rfl ?_ (fits_of_scanBound bB))
    have oB := L2.store_at (es' := eB) (t' := tC) oA rfl
    refine wpAny_pure (kR _ (sA.trans (Heap.SameBut.update _ a _)) ?_)
    exact ⟨_, eB, _, tC, oB, pX, rfl, fun e he => gA e (per.mem_iff.mp he), (per.map keyS).nodup_iff.mpr uA, fun k => (mA k).trans (per.map keyS).mem_iff.symm, bB, fC, sZ, rC,
      pL.imp id fun z => by rw [lC]; exact z⟩
  · exact wpAny_pure (kR _ sA ⟨_, eA, _, tB, oA, pX, rfl, gA, uA, mA, bA, fB, rfl, pR, pL⟩)

theorem setS_add {k : Str} {tk : Tok} {Q : Bool → Shared → Prop} (R : SetS w s.heap a S n) (room : n + 1 < scanBound)
    (kQ : ∀ g', Heap.SameBut a s.heap g' → SetS w g' a (fun j => S j || decide (j = k)) (if S k = true then n else n + 1) → Q (!S k) { s with heap := g' }) :
    wpAny (model P w) A (setAddHashed a (.str k tk) ((strKind P w).hash k)) Q E s := by
  obtain ⟨o, es, ep, t, pO, pX, pD, g, pU, pM, pB, pF, pN, pR, pL⟩ := R
  have kK : (strKind P w).is k (.str k tk) = true := strKind_is P w k tk
  have kS : (Value.str k tk).scannable = true := rfl
  have kE : ElemsOf (strKind P w) es.toList := goodS_elems g
  unfold setAddHashed setAddHashedIn
  refine wpAny_holding (wpAny_bind (wpAny_setState_of pO pD pF ?_))
  dsimp only
  rw [byScan_of kS pB kE]
  simp only [↓reduceIte]
  unfold setAddByScan
  refine wpAny_bind ?_
  refine wpAny_bind (wpAny_rule ?_)
  refine wpAny_bind (wpAny_setScan_of kK pO pD pF kE ?_)
  cases fI : List.findIdx? (fun e => (strKind P w).is k e.2) es.toList with
  | some j =>
    dsimp only
    obtain ⟨jJ, jP, _⟩ := List.findIdx?_eq_some_iff_getElem.mp fI
    have sK : S k = true := (pM k).2 ((goodS_mem (P := P) (w := w) g k).2 ⟨es.toList[j], List.getElem_mem jJ, jP⟩)
    refine wpAny_pure (wpAny_pure ?_)
    have q := kQ s.heap (Heap.SameBut.refl a s.heap) ⟨o, es, ep, t, pO, pX, pD, g, pU, fun i => by
      rw [Bool.or_eq_true, decide_eq_true_eq, ← pM i]
      exact ⟨fun z => z.elim id (fun e => e ▸ sK), .inl⟩, pB, pF, by rw [if_pos sK]; exact pN, pR, pL⟩
    rw [sK] at q
    exact q
  | none =>
    dsimp only
    have nK : k ∉ es.toList.map keyS := fun z => by
      obtain ⟨e, he, q⟩ := (goodS_mem (P := P) (w := w) g k).1 z
      have c := List.findIdx?_eq_none_iff.mp fI e he
      rw [q] at c
      cases c
    have sK : S k = false := by
      cases q : S k with
      | false => rfl
      | true => exact absurd ((pM k).1 q) nK
    have gW : ∀ (b : Bool) {s₁ : Shared} {Q' : Unit → Shared → Prop}, Q' () s₁ → wpAny (model P w) A (match b with | true => rule "set.scan.the-table-gave-way" | false => pure ()) Q' E s₁ :=
      fun b s₁ Q' q => by cases b <;> first | exact wpAny_pure q | exact wpAny_rule q
    have per := layNew_perm t es ((strKind P w).hash k) (.str k tk)
    have f1 := layNew_fits t es ((strKind P w).hash k) (.str k tk)
    have r1 := layNew_ris t es ((strKind P w).hash k) (.str k tk) pR
    have l1 := layNew_led t es ((strKind P w).hash k) (.str k tk)
    generalize layNew t es ((strKind P w).hash k) (.str k tk) = Z at per f1 r1 l1 ⊢
    obtain ⟨eA, tA, wD, gv⟩ := Z
    dsimp only at per f1 r1 l1 ⊢
    rw [Array.toList_push] at per
    have pC : eA.toList.Perm (((strKind P w).hash k, Value.str k tk) :: es.toList) := per.trans (List.perm_append_singleton _ _)
    have pK : (eA.toList.map keyS).Perm (k :: es.toList.map keyS) := pC.map keyS
    have gA : ∀ e ∈ eA.toList, GoodS w e := fun e he => by
      rcases List.mem_cons.mp (pC.mem_iff.mp he) with z | z
      · rw [z]; exact ⟨k, tk, rfl, rfl⟩
      · exact g e z
    have uA : (eA.toList.map keyS).Nodup := pK.nodup_iff.mpr (List.nodup_cons.mpr ⟨nK, pU⟩)
    have mA : ∀ i, (S i || decide (i = k)) = true ↔ i ∈ eA.toList.map keyS := fun i => by
      rw [Bool.or_eq_true, decide_eq_true_eq, pM i, pK.mem_iff, List.mem_cons]
      exact Or.comm
    have sZ : eA.size = n + 1 := by rw [← Array.length_toList, pC.length_eq, List.length_cons, Array.length_toList, pN]
    have bA : eA.size < scanBound := by rw [sZ]; exact room
    have lD : w.params.followText "set-order" = true ∨ tA.led = true := pL.imp id fun z => by rw [l1]; exact z
    have fn : ∀ g', Heap.SameBut a s.heap g' → SetS w g' a (fun j => S j || decide (j = k)) eA.size → Q true { s with heap := g' } := fun g' sb r => by
      have q := kQ g' sb
      rw [sK] at q
      rw [sZ] at r
      exact q r
    refine wpAny_bind (gW _ ?_)
    split
    · refine wpAny_bind ?_
      rw [hashByValue_scannable 8 kS]
      refine wpAny_pure ?_
      refine setS_tail ?_ pO pX pD gA uA mA bA ?_ ?_ ?_ ?_
      · intro b s₁ Q' q; cases b <;> first | exact wpAny_pure q | exact wpAny_rule q
      · first | (split <;> first | exact f1 | exact SetTable.fits_plain_off f1) | exact f1
      · first | (split <;> exact r1) | exact r1
      · first | (split <;> exact lD) | exact lD
      · intro g' sb r; dsimp only; exact wpAny_pure (fn g' sb r)
    · refine wpAny_bind (wpAny_pure ?_)
      simp only [↓reduceIte]
      refine setS_tail ?_ pO pX pD gA uA mA bA f1 r1 lD ?_
      · intro b s₁ Q' q; cases b <;> first | exact wpAny_pure q | exact wpAny_rule q
      · intro g' sb r; dsimp only; exact wpAny_pure (fn g' sb r)

end
theorem setS_new_at {w : World} {h : Heap} {a : Addr} {ns : List Str} (pO : h.get? a = some { cls := .type "set", dict := none, data := .set #[] 0 (.fresh 0 0 (!w.params.followText "set-order")) }) : SetS w h a (fun j => decide (j ∈ ns.take 0)) 0 :=
  ⟨_, #[], 0, _, pO, ⟨rfl, rfl, rfl⟩, rfl, (fun e he => by simp at he), (by simp), (fun k => by simp), (by decide), (by rfl), rfl, List.Pairwise.nil, by
    show _ ∨ (!w.params.followText "set-order") = true
    cases w.params.followText "set-order"
    · exact .inr rfl
    · exact .inl rfl⟩
section
variable {P : Program} {w : World} {A : Around} {E : Value → Shared → Prop} {s : Shared}
theorem set_update_strs {I : Addr} {fp wr : List Addr} {G : Array GenState → Array GenState → Prop} {n : Nat} {Pv : Nat → Value → Prop} {St : Nat → Shared → Prop} {R : Result → Shared → Prop}
    (W : WalksS P w A.in1 I fp wr G n Pv St) (S : Addr) (nS : S ∉ fp) (ns : List Str) (pN : n = ns.length) (pB : ns.length + 1 < scanBound) (vAt : ∀ i v, Pv i v → ∃ k t, ns[i]? = some k ∧ v = .str k t) :
    ∀ (k i : Nat) (s : Shared), n - i = k → i ≤ n → St i s → (∃ c, c ≤ i ∧ SetS w s.heap S (fun j => decide (j ∈ ns.take i)) c) →
      (∀ s' c, Moved (S :: wr) G s s' → c ≤ n → SetS w s'.heap S (fun j => decide (j ∈ ns)) c → R (.ok (.ret .none)) s') →
      codeAny (model P w) A (.builtin "set.update.loop" ⟨[.ref S, .ref I], []⟩) R s := by
  have nW : S ∉ wr := fun h => nS (W.sub _ h)
  have sW : ∀ b ∈ wr, b ∈ S :: wr := fun b pB => List.mem_cons_of_mem _ pB
  intro k
  induction k with
  | zero =>
    intro i s kN iN st0 ⟨c, cI, rS⟩ kR
    have iE : i = n := by omega
    subst iE
    refine codeAny_builtin F.entry_set_update_loop ?_
    rw [Around.under_plainId F.plain_set_update_loop _]
    show wpAny _ A.in1 (pyNext (.ref I) >>= _) _ _ s
    refine wpAny_bind (W.done s _ _ st0 fun s' pM => ?_)
    show wpAny _ A.in1 (ret Value.none) _ _ s'
    have e : ns.take i = ns := List.take_of_length_le (by omega)
    rw [e] at rS
    exact wpAny_pure (kR s' c (pM.mono sW) cI (rS.at fun o e => pM.heap S o nW e))
  | succ k ih =>
    intro i s kN iN st0 ⟨c, cI, rS⟩ kR
    have iL : i < n := by omega
    refine codeAny_builtin F.entry_set_update_loop ?_
    rw [Around.under_plainId F.plain_set_update_loop _]
    show wpAny _ A.in1 (pyNext (.ref I) >>= _) _ _ s
    refine wpAny_bind (W.item i s _ _ iL st0 fun v s' vP st1 pM => ?_)
    obtain ⟨z, t, hz, rfl⟩ := vAt i v vP
    have rS' : SetS w s'.heap S (fun j => decide (j ∈ ns.take i)) c := rS.at fun o e => pM.heap S o nW e
    show wpAny _ A.in1 (holding [Value.str z t] (setAdd S (.str z t)) >>= _) _ _ s'
    refine wpAny_bind (wpAny_holding ?_)
    unfold setAdd
    refine wpAny_holding ?_
    refine wpAny_bind ((strKind P w).pyHash (k := z) (strKind_is _ _ _ _) ?_)
    refine setS_add (s := { s' with toks := s'.toks + 1 }) rS' (by omega) fun g' sB rS2 => ?_
    have rS3 : SetS w g' S (fun j => decide (j ∈ ns.take (i + 1))) (if decide (z ∈ ns.take i) = true then c else c + 1) := rS2.congr fun j => by
      rw [List.take_add_one, hz]
      simp [List.mem_append]
    have c3 : (if decide (z ∈ ns.take i) = true then c else c + 1) ≤ i + 1 := by
      split <;> omega
    refine wpAny_pure ⟨plainId_quiet F.plain_set_update_loop _, ih (i + 1) _ (by omega) iL (W.frame _ s' _ _ st1 (Nat.le_succ _) fun b pB o e => ?_) ⟨_, c3, rS3⟩ fun s'' c2 m2 cJ rJ => ?_⟩
    · rw [sB.2 b (fun h : b = S => nS (by rw [← h]; exact pB))]; exact e
    · refine kR s'' c2 (Moved.trans W.gtrans ((pM.mono sW).then_heap (Nat.le_succ _) fun b o pB e => ?_) m2) cJ rJ
      rw [sB.2 b (fun h : b = S => pB (by rw [h]; exact List.mem_cons_self))]; exact e

/-- set.__init__(the new set, a list of strs) -/
def SetLeftS (w : World) (s : Shared) (ns : List Str) (v : Value) (t : Shared) : Prop :=
  v = .none ∧ ∃ g k c, t = { s with heap := g, toks := k } ∧ SetS w g s.heap.objs.size (fun j => decide (j ∈ ns)) c ∧ c ≤ ns.length ∧ ∀ b o, s.heap.get? b = some o → g.get? b = some o
theorem init_lstS {l : Addr} {xs : Array Value} (ns : List Str) (hh : A.handled = none) (hl : s.heap.IsList l xs) (hi : StrsAre xs.toList ns) (hb : ns.length + 1 < scanBound) :
    wpAny (model P w) A.in1 (Builtin.«set.__init__» ⟨[.ref s.heap.objs.size, .ref l], []⟩) (fun f t => ∃ v, f = .done (.ret v) ∧ SetLeftS w s ns v t) E { s with heap := s.heap.push (eo w) } := by
  have ats : ∀ (i : Nat) (v : Value), xs.toList[i]? = some v → ∃ k t, ns[i]? = some k ∧ v = .str k t := by
    generalize xs.toList = us at hi
    clear hb
    induction hi with
    | nil => intro i v e; simp at e
    | cons y t _ ih =>
      intro i v e
      cases i with
      | zero => exact ⟨y, t, rfl, by simpa using e.symm⟩
      | succ i => exact ih i v (by simpa using e)
  have zs : xs.size = ns.length := by
    rw [← Array.length_toList]
    generalize xs.toList = us at hi
    clear ats hb
    induction hi with
    | nil => rfl
    | cons y t _ ih => rw [List.length_cons, List.length_cons, ih]
  have pS : (s.heap.push (eo w)).get? s.heap.objs.size = some (eo w) := Heap.get?_push_size _ rfl
  have pT : Shared.TypeIs { s with heap := s.heap.push (eo w) } (.ref s.heap.objs.size) "set" := ⟨_, pS, rfl⟩
  obtain ⟨⟨oc, od, dt, os⟩, hol, hcl, nl, hdl⟩ := hl
  simp only at hcl hdl
  subst hcl hdl
  have pl : (s.heap.push (eo w)).get? l = some ⟨.type "list", od, .seq xs nl, os⟩ := Heap.get?_push_of_some _ hol
  have s1 := F.sub_list_set
  have s2 := F.sub_list_frozenset
  have s3 : (Value.type "list" == Value.type "dict") = false := by decide
  have pL : (s.heap.push (eo w)).IsList l xs := ⟨_, pl, rfl, nl, rfl⟩
  unfold Builtin.«set.__init__» noKeywords Builtin.Frozenset.updateFrom; generalize hp : pyIter = PI; wp_walk; subst hp
  have lS : l < s.heap.objs.size := Heap.lt_size hol
  have zz : (s.heap.push (eo w)).objs.size = s.heap.objs.size + 1 := Heap.size_push ..
  have nI : l ≠ (s.heap.push (eo w)).objs.size := zz ▸ Nat.ne_of_lt (Nat.lt_succ_of_lt lS)
  have nS : s.heap.objs.size ∉ [(s.heap.push (eo w)).objs.size, l] := by
    rw [zz, List.mem_cons, List.mem_singleton]
    exact fun q => q.elim (Nat.ne_of_lt (Nat.lt_succ_self _)) (Nat.ne_of_gt lS)
  have vals : ∀ (i : Nat) (v : Value), xs[i]? = some v → ∃ k t, ns[i]? = some k ∧ v = .str k t := fun i v hv => ats i v (by rw [Array.getElem?_toList]; exact hv)
  refine wpAny_pyIter_list pL (wpAny_bind (wpAny_runValue ?_))
  refine set_update_strs (Walks.list (by simpa using hh) _ l nI xs).toS s.heap.objs.size nS ns zs hb vals (xs.size - 0) 0 _ (by omega) (Nat.zero_le _) ⟨⟨_, Heap.get?_push_size _ rfl, rfl, rfl⟩, pL.push _⟩ ⟨0, Nat.le_refl 0, setS_new_at (Heap.get?_push_of_some _ pS)⟩ fun t c hm hc hR => ?_
  obtain ⟨g, g2, d2, k2, o2⟩ := t
  have y1 : g2 = s.gens := hm.gens
  have y2 : d2 = s.drawn := hm.drawn
  have y3 : o2 = s.os := hm.os
  subst y1 y2 y3
  refine wpAny_pure (?_ : wpAny _ _ (ret Value.none) _ _ _)
  refine wpAny_pure ⟨_, rfl, rfl, g, k2, c, rfl, hR, by omega, fun b o e => ?_⟩
  have lb : b < s.heap.objs.size := Heap.lt_size e
  refine hm.heap b o ?_ (Heap.get?_push_of_some _ (Heap.get?_push_of_some _ e))
  rw [zz, List.mem_cons, List.mem_singleton]
  exact fun q => q.elim (Nat.ne_of_lt lb) (Nat.ne_of_lt (Nat.lt_succ_of_lt lb))
theorem call_set_lstS {l : Addr} {xs : Array Value} (ns : List Str) {Q : Value → Shared → Prop} (hh : A.handled = none) (hl : s.heap.IsList l xs) (hi : StrsAre xs.toList ns) (hb : ns.length + 1 < scanBound)
    (h : ∀ g k c, SetS w g s.heap.objs.size (fun j => decide (j ∈ ns)) c → c ≤ ns.length → (∀ b o, s.heap.get? b = some o → g.get? b = some o) → Q (.ref s.heap.objs.size) { s with heap := g, toks := k }) : wpAny (model P w) A (call (.type "set") [.ref l]) Q E s := by
  obtain ⟨c0, tl, c1⟩ := F.called_set.mro
  have c2 := F.called_set.made
  have c3 := F.called_set.sub
  have c4 := F.called_set.notType
  have c5 := F.called_set.canCreate
  have c6 := F.typeCall_set_1 (.ref l)
  refine wpAny_call (codeAny_of_tree (?_ : wpAny _ _ (callAny (.type "set") _) _ _ _))
  refine wpAny_pure ⟨Code.quiet_builtin _ (by decide +kernel), codeAny_builtin F.entry_type_call ?_⟩
  rw [Around.under_plain (weight_type_call_type "set" [.ref l] []) rfl]
  repeat (any_goals (first | assumption | wp_step))
  refine codeAny_mono (code_set_led1 (.ref l) (E := E) (Q₁ := fun v t => v = .ref s.heap.objs.size ∧ t = { s with heap := s.heap.push (eo w) }) ⟨rfl, rfl⟩) fun r t hr => ?_
  match r, hr with
  | .error e, hr => exact hr
  | .ok (.ret v), hr =>
    obtain ⟨rfl, rfl⟩ := hr
    have pS : (s.heap.push (eo w)).get? s.heap.objs.size = some (eo w) := Heap.get?_push_size _ rfl
    have pT : Shared.TypeIs { s with heap := s.heap.push (eo w) } (.ref s.heap.objs.size) "set" := ⟨_, pS, rfl⟩
    have d1 := F.called_set.init.lookup
    have d2 := F.called_set.init.bind (.ref s.heap.objs.size)
    repeat (any_goals (first | assumption | wp_step))
    refine codeAny_mono (codeAny_call_builtin (R := wants (SetLeftS w s ns) E) F.called_set.init.plain F.entry_set_init (check_set_init_1 pT ?_)) fun r2 t2 hr2 => ?_
    · refine wpAny_mono (init_lstS (A := A.in1) ns (by simpa using hh) hl hi hb) (fun f t q => ?_) fun _ _ e => e
      obtain ⟨v, rfl, q⟩ := q
      exact q
    · match r2, hr2 with
      | .error e, hr2 => exact hr2
      | .ok (.ret v), hr2 =>
        obtain ⟨rfl, g, k, c, rfl, k1, k2, k3⟩ := hr2
        repeat (any_goals (first | assumption | wp_step))
        exact h _ _ _ k1 k2 k3
end
theorem mem_nubS {k : Str} : ∀ {l : List Str}, k ∈ nubS l ↔ k ∈ l
  | [] => Iff.rfl
  | x :: r => by
    rw [nubS, List.mem_cons, List.mem_filter, mem_nubS (l := r), List.mem_cons]
    constructor
    · rintro (h | ⟨h, _⟩)
      · exact .inl h
      · exact .inr h
    · rintro (h | h)
      · exact .inl h
      · by_cases e : k = x
        · exact .inl e
        · exact .inr ⟨h, by simpa using e⟩
theorem nodup_nubS : ∀ l : List Str, (nubS l).Nodup
  | [] => List.nodup_nil
  | x :: r => by
    rw [nubS, List.nodup_cons]
    refine ⟨fun h => ?_, (nodup_nubS r).filter _⟩
    have := (List.mem_filter.mp h).2
    simp at this
theorem nubS_len : ∀ l : List Str, (nubS l).length ≤ l.length
  | [] => Nat.le_refl _
  | a :: r => by
    rw [nubS, List.length_cons, List.length_cons]
    have := List.length_filter_le (fun y => y != a) (nubS r)
    have := nubS_len r
    omega
theorem nubS_of {l l' : List Str} (n : l'.Nodup) (m : ∀ k, k ∈ l' ↔ k ∈ l) : l'.Perm (nubS l) := (List.perm_ext_iff_of_nodup n (nodup_nubS l)).mpr fun k => by rw [m, mem_nubS]
theorem nubI_of {l l' : List Int} (n : l'.Nodup) (m : ∀ k, k ∈ l' ↔ k ∈ l) : l'.Perm (nubI l) := (List.perm_ext_iff_of_nodup n (nodup_nubI l)).mpr fun k => by rw [m, mem_nubI]
def strOf (v : Value) : Str := match v with
  | .str k _ => k
  | _ => ⟨#[]⟩
theorem keyS_strOf (e : Int × Value) : keyS e = strOf e.2 := by
  obtain ⟨h, v⟩ := e
  cases v <;> rfl
open PySem.W in
theorem each_strOf : ∀ vs : List Value, (∀ v ∈ vs, ∃ k t, v = Value.str k t) → EachIs (fun v (b : Str) => ∃ t, v = Value.str b t) vs (vs.map strOf)
  | [], _ => .nil
  | v :: vs, h => by
    obtain ⟨k, t, e⟩ := h v List.mem_cons_self
    subst e
    exact .cons ⟨t, rfl⟩ (each_strOf vs fun u hu => h u (List.mem_cons_of_mem _ hu))
open PySem.W in
theorem strs_of_each : ∀ {vs : List Value} {bs : List Str}, EachIs (fun v (b : Str) => ∃ t, v = Value.str b t) vs bs → StrsAre vs bs
  | _, _, .nil => .nil
  | _, _, .cons ⟨t, e⟩ r => by
    subst e
    exact .cons _ t (strs_of_each r)
section
variable {P : Program} {w : World} {A : Around} {E : Value → Shared → Prop} {s : Shared} {a : Addr} {n : Nat}
open PySem.W in
theorem sorted_setS {ss : List Str} {Q : Value → Shared → Prop} (R : SetS w s.heap a (fun j => decide (j ∈ ss)) n) (hh : A.handled = none) (h64 : n < 64) (hu : A.units + 70 < cLine)
    (hQ : ∀ s' p (out : Array Value) (c : Nat), (∀ b o, s.heap.get? b = some o → s'.heap.get? b = some o) → s'.gens = s.gens → s'.os = s.os → s.heap.objs.size ≤ p →
      s'.heap.get? p = some (seqObj "list" out c) → StrsAre out.toList ((nubS ss).mergeSort leS) → Q (.ref p) s') :
    wpAny (model P w) A (call (.builtin "sorted") [.ref a]) Q E s := by
  obtain ⟨o, es, ep, t, ho, hex, hd, g, nd, hm, hb, hf, hn, hr, hl⟩ := R
  refine call_function_entry_kw kind_sorted plain_sorted entry_sorted (args_sorted1 _) (?_ : wpAny (model P w) _ _ _ _ _)
  unfold Builtin.«sorted»
  refine wpAny_bind (m := checkCount "sorted" 1 1 _) (wpAny_pure (wpAny_bind (collect_set (A := A.in1) hh ⟨o, ho, hex.1, hd⟩ hf hb hr hl fun s1 vs k1 hz g1 o1 pm => ?_)))
  have vl : vs.length = n := by rw [pm.length_eq, List.length_map, Array.length_toList]; exact hn
  have vz : vs.length ≤ sizeLine := by rw [vl, sizeLine_eq]; omega
  have vS : ∀ v ∈ vs, ∃ k t, v = Value.str k t := fun v hv => by
    obtain ⟨e, he, q⟩ := List.mem_map.mp (pm.mem_iff.mp hv)
    obtain ⟨k, tk, e1, _⟩ := g e he
    exact ⟨k, tk, by rw [← q]; exact e1⟩
  have pk : (vs.map strOf).Perm (es.toList.map keyS) := by
    have q := pm.map strOf
    rw [List.map_map] at q
    have e2 : es.toList.map keyS = es.toList.map (strOf ∘ fun x => x.2) := List.map_congr_left fun e _ => keyS_strOf e
    rw [e2]
    exact q
  have pn : (vs.map strOf).Perm (nubS ss) := pk.trans (nubS_of nd fun k => by rw [← hm k, decide_eq_true_eq])
  have ee := each_strOf vs vS
  refine wpAny_bind (wpAny_newList (?_ : wpAny (model P w) _ _ _ _ { s1 with heap := s1.heap.push (seqObj "list" vs.toArray 0) }) vz)
  have oL : (s1.heap.push (seqObj "list" vs.toArray 0)).get? s1.heap.objs.size = some (seqObj "list" vs.toArray 0) := Heap.get?_push_size _ rfl
  generalize hH : s1.heap.push (seqObj "list" vs.toArray 0) = H2 at oL
  have er2 : EachIs (fun v b => ∃ as, Reads (sortingHeap H2 s1.heap.objs.size vs) v ((fun x : Str => PyData.str x) b) as) vs (vs.map strOf) := ee.mono fun _ _ ⟨t, e⟩ => by subst e; exact ⟨_, .str _ t⟩
  have hal : AllAlike ((vs.map strOf).map fun x : Str => PyData.str x) := fun d hd d' hd' => by
    obtain ⟨x, _, rfl⟩ := List.mem_map.mp hd
    obtain ⟨y, _, rfl⟩ := List.mem_map.mp hd'
    rfl
  have hk : Sortable ((vs.map strOf).map fun x : Str => PyData.str x) := .inr fun d hd => by
    obtain ⟨x, _, rfl⟩ := List.mem_map.mp hd
    exact ⟨by simp, fun _ => by simp⟩
  have S : SortsAt P w A.in1.in1 { s1 with heap := sortingHeap H2 s1.heap.objs.size vs } (dataKind (sortingHeap H2 s1.heap.objs.size vs) ((vs.map strOf).map fun x : Str => PyData.str x)) vs :=
    SortsAt.data (s := { s1 with heap := sortingHeap H2 s1.heap.objs.size vs }) (each_map (R := fun v d => ∃ as, Reads (sortingHeap H2 s1.heap.objs.size vs) v d as) (fun x : Str => PyData.str x) er2) hal hk fun d hd => by
      obtain ⟨x, _, rfl⟩ := List.mem_map.mp hd
      have e1 : (PyData.str x).depth ≤ 1 := by first | exact Nat.le_refl _ | exact Nat.zero_le _ | decide
      have e2 : A.in1.in1.units = A.units + 2 := rfl
      omega
  have sd := sortVals_data (enc := fun x : Str => PyData.str x) false ee er2 hal
  refine wpAny_bind (wpAny_holding (wpAny_call_entry_kw slot_list_sort ⟨_, oL, rfl⟩ entry_list_sort (?_ : wpAny (model P w) A.in1.in1 (Builtin.«list.sort» ⟨[.ref s1.heap.objs.size], []⟩) _ _ _) (args_list_sort _)))
  refine list_sort_vals (s := { s1 with heap := H2 }) oL S vz ⟨_, rfl, wpAny_pure ⟨_, rfl, ?_⟩⟩
  have q1 := strs_of_each sd
  rw [dataLe_str (fun x : Str => x)] at q1
  have q2 : (vs.map strOf).mergeSort leS = (nubS ss).mergeSort leS := sortS_perm pn
  obtain ⟨c, hc⟩ := sortedHeap_at (vs := vs) (out := (sortVals (dataKind (sortingHeap H2 s1.heap.objs.size vs) ((vs.map strOf).map fun x : Str => PyData.str x)) false vs vs).toArray) oL
  refine hQ _ s1.heap.objs.size _ c (fun b u e => ?_) g1 o1 hz hc ?_
  · have q := k1 b u e
    have hlt := Heap.lt_size q
    show (sortedHeap H2 s1.heap.objs.size vs _).get? b = some u
    rw [sortedHeap_old (Nat.ne_of_lt hlt) (by rw [← hH, size_push']; exact Nat.lt_succ_of_lt hlt), ← hH]
    exact Heap.get?_push_of_some _ q
  · rw [← q2]
    exact q1
theorem len_setI {ns : List Int} {Q : Value → Shared → Prop} (R : SetR w s.heap a (fun j => decide (j ∈ ns)) n) (h : Q (.int ((nubI ns).length : Nat) (s.toks + 1)) { s with toks := s.toks + 1 + 1 }) : wpAny (model P w) A (call (.builtin "len") [.ref a]) Q E s := by
  obtain ⟨o, es, ep, t, ho, hex, hd, g, nd, hm, hb, hf, hn, hr, hl⟩ := R
  have p : (es.toList.map keyOf).Perm (nubI ns) := nubI_of nd fun k => by rw [← hm k, decide_eq_true_eq]
  have z : es.size = (nubI ns).length := by rw [← p.length_eq, List.length_map, Array.length_toList]
  refine call_len_set ho hex hd hf ?_ ?_
  · unfold PySem.scanBound at hb; omega
  · rw [z]; exact h
theorem len_setS {ss : List Str} {Q : Value → Shared → Prop} (R : SetS w s.heap a (fun j => decide (j ∈ ss)) n) (h : Q (.int ((nubS ss).length : Nat) (s.toks + 1)) { s with toks := s.toks + 1 + 1 }) : wpAny (model P w) A (call (.builtin "len") [.ref a]) Q E s := by
  obtain ⟨o, es, ep, t, ho, hex, hd, g, nd, hm, hb, hf, hn, hr, hl⟩ := R
  have p : (es.toList.map keyS).Perm (nubS ss) := nubS_of nd fun k => by rw [← hm k, decide_eq_true_eq]
  have z : es.size = (nubS ss).length := by rw [← p.length_eq, List.length_map, Array.length_toList]
  refine call_len_set ho hex hd hf ?_ ?_
  · unfold PySem.scanBound at hb; omega
  · rw [z]; exact h
end

section
variable {X : Cx} {Wx : WX} {a : Expr} {pos : Pos} {fa : En → G81.R D} {la : En → Bool}
def tLenSet (K : PySem.W.Frag) (ta : TE) : TE := fun σ H Q => ta σ H fun x H1 => ∃ l : Addr, x = .ref l ∧
  ((∃ ns : List Int, SqL K H1 l (ns.map V.int) ∧ ns.length < 60 ∧ Q (.int ((nubI ns).length : Nat)) H1) ∨ (∃ ss : List Str, SqL K H1 l (ss.map V.str) ∧ ss.length < 60 ∧ Q (.int ((nubS ss).length : Nat)) H1))
theorem pe_lenset {ta : TE} {p p2 q : Pos} (hc : X.calm = true) (hg : Gl X "len") (hm : X.mg "len" = none) (hg2 : Gl X "set") (hm2 : X.mg "set" = none) (ha : PE X a ta) (na : starEach [a] X.env = (false, eval a X.env) :: starEach [] X.env) :
    PE X (.Call (.Name "len" p) [.Call (.Name "set" p2) [a] [] q] [] pos) (tLenSet X.K ta) := by
  refine ⟨fun pins s σ H Q I h => ?_⟩
  refine Call_ (ld_blt I hg hm (u := .builtin "len") (by decide +kernel) (PyProof.Rows.callWith_builtin1 (PyProof.Rows.args_cons (?_ : wpAny _ _ _ _ _ _) rfl) rfl rfl))
  refine Call_ (ld_blt I hg2 hm2 (u := .type "set") (by decide +kernel) (PyProof.Rows.callWith_type1 (PyProof.Rows.args_cons (thn (ha.run pins s σ H _ I h) fun v s1 ⟨x, H1, I1, r1, q1⟩ => PyProof.Rows.args_nil ?_) na) na rfl))
  obtain ⟨l, rfl, q1⟩ := q1
  cases r1
  rcases q1 with ⟨ns, hq, hl, q1⟩ | ⟨ss, hq, hl, q1⟩
  · obtain ⟨its, r, pt, hz⟩ := I1.list hq
    refine call_set_lst ns (I1.ok.hd hc) pt.isList (by simpa using vals_intsAre r) (by unfold PySem.scanBound; omega) fun h' tk c hS hcl hk => PyProof.Rows.args_nil ?_
    have I2 : Inv X pins σ H1 { s1 with heap := h', toks := tk } := I1.kept fun b o e => hk b o e
    exact len_setI hS ⟨.int ((nubI ns).length : Nat), H1, I2.tok _, ⟨_, rfl⟩, q1⟩
  · obtain ⟨its, r, pt, hz⟩ := I1.list hq
    refine call_set_lstS ss (I1.ok.hd hc) pt.isList (by simpa using Vals.strs r) (by unfold PySem.scanBound; omega) fun h' tk c hS hcl hk => PyProof.Rows.args_nil ?_
    have I2 : Inv X pins σ H1 { s1 with heap := h', toks := tk } := I1.kept fun b o e => hk b o e
    exact len_setS hS ⟨.int ((nubS ss).length : Nat), H1, I2.tok _, ⟨_, rfl⟩, q1⟩
theorem reps_str {G : Gx} {F : Hp} : ∀ ss : List Str, Reps G F (ss.map D.str) (ss.map V.str)
  | [] => rfl
  | i :: r => ⟨.str i, _, rfl, rfl, reps_str r⟩
theorem d_lenset {p p2 q : Pos} (hc : X.calm = true) (hg : Gl X "len") (hm : X.mg "len" = none) (hg2 : Gl X "set") (hm2 : X.mg "set" = none) (ha : PE X a (tBo (gx X) Wx fa la)) (he : nst a = true) :
    PE X (.Call (.Name "len" p) [.Call (.Name "set" p2) [a] [] q] [] pos) (tD (gx X) Wx fun ρ => (fa ρ).bind fun u => lensetEv [u]) :=
  PE_imp (pe_lenset hc hg hm hg2 hm2 ha (starEach_one he)) fun σ H Q ⟨F0, H0, F, ρ, R, o⟩ => by
    refine ⟨F0, H0, F, ρ, R, o.bind.imp (fun u _ o2 => ?_) (fun _ h => h)⟩
    intro F1 H1 x E1 bx _
    have o4 := Out.nox (thr' := fun _ => False) o2 (nox_bi .lenset [u])
    have o4 : Out (lensetEv [u]) (okW (gx X) F H Q) (fun _ => False) := o4
    cases u with
    | lst ds =>
      have o5 : Out (if ds.length < 60 then (G81.R.of (lenSet? ds)).map fun (n : Nat) => W.d (.int n) else .stuck) (okW (gx X) F H Q) (fun _ => False) := o4
      split at o5
      · rename_i hlen
        obtain ⟨n, e, o3⟩ := (Out.map o5).of
        obtain ⟨pa, vs, rfl, hp, rr⟩ := bx
        unfold lenSet? at e
        split at e
        · rename_i is ei
          cases e
          have ev := ints_rep ei rr
          subst ev
          have hl := rr.length
          rw [List.length_map] at hl
          exact ⟨pa, rfl, .inl ⟨is, .inl hp, by omega, okW.scal (okW.ext o3 E1) E1.fh fun _ => rfl⟩⟩
        · obtain ⟨ss, es', rfl⟩ := Option.map_eq_some_iff.mp e
          have ev := strs_rep es' rr
          subst ev
          have hl := rr.length
          rw [List.length_map] at hl
          exact ⟨pa, rfl, .inr ⟨ss, .inl hp, by omega, okW.scal (okW.ext o3 E1) E1.fh fun _ => rfl⟩⟩
      · exact o5.elim
    | _ => exact (show False from o4).elim
end
end G81
end
section
set_option Elab.async false
set_option linter.all false
set_option maxHeartbeats 8000000
set_option maxRecDepth 100000
namespace G81
open PySem PySem.Spec PyProof.Rows L2
def mtK (r : Mt) : NestedKey := .tup [.text r.1, .num r.2.1, .num r.2.2]
theorem mtK_inj {r q : Mt} (e : mtK r = mtK q) : r = q := by
  obtain ⟨a, b, c⟩ := r
  obtain ⟨a', b', c'⟩ := q
  unfold mtK at e
  simp only [NestedKey.tup.injEq, List.cons.injEq, NestedKey.text.injEq, NestedKey.num.injEq, and_true] at e
  obtain ⟨rfl, rfl, rfl⟩ := e
  rfl
abbrev mtH (w : World) (r : Mt) : Int := (mtK r).hash w
def IsM (h : Heap) (r : Mt) (a : Addr) : Prop := ∃ o n t1 t2 t3, h.get? a = some o ∧ o.cls = .type "tuple" ∧ o.data = .seq #[.str r.1 t1, .int r.2.1 t2, .int r.2.2 t3] n
section
variable {h h' : Heap} {r q : Mt} {a b : Addr}
theorem IsM.key (x : IsM h r a) : NestedIs h (mtK r) (.ref a) := by
  obtain ⟨o, n, t1, t2, t3, h1, h2, h3⟩ := x
  exact .tup h1 h2 h3 (.cons (.text _ _) (.cons (.int _ _) (.cons (.int _ _) .nil)))
theorem IsM.inj (x : IsM h r a) (y : IsM h q a) : r = q := mtK_inj (NestedIs.inj _ _ _ x.key y.key)
theorem IsM.keep (x : IsM h r a) (k : ∀ c o, h.get? c = some o → h'.get? c = some o) : IsM h' r a := by
  obtain ⟨o, n, t1, t2, t3, h1, h2⟩ := x
  exact ⟨o, n, t1, t2, t3, k _ _ h1, h2⟩
theorem IsM.but {o : Obj} {es : Array (Int × Value)} {ep : Nat} {t : SetTable} (x : IsM h r b) (ho : h.get? a = some o) (hd : o.data = .set es ep t) (k : Heap.SameBut a h h') : IsM h' r b := by
  obtain ⟨o2, n, t1, t2, t3, h1, h2, h3⟩ := x
  have ne : b ≠ a := fun e => by
    rw [e, ho] at h1
    cases h1
    rw [hd] at h3
    cases h3
  exact ⟨o2, n, t1, t2, t3, (k.2 b ne).trans h1, h2, h3⟩
end
theorem mt_depth (r : Mt) : (mtK r).depth = 1 := rfl
section
variable {P : Program} {w : World} {A : Around} {E : Value → Shared → Prop} {s : Shared} {r q : Mt} {a b : Addr}
theorem isM_hash {Q : Int → Shared → Prop} (x : IsM s.heap r a) (hu : A.units + 1 < cLine) (k : Q (mtH w r) { s with toks := s.toks + (mtK r).draws }) : wpAny (model P w) A (pyHash (.ref a)) Q E s :=
  pyHash_key (mtK r) _ A s Q x.key (by rw [mt_depth]; exact hu) k
theorem isM_quiet {Q : Bool → Shared → Prop} (x : IsM s.heap r a) (k : Q true s) : wpAny (model P w) A (eqIsQuiet 8 (.ref a)) Q E s :=
  quiet_key (mtK r) _ 8 s x.key (by rw [mt_depth]; omega) A E Q k
theorem isM_eq {Q : Bool → Shared → Prop} (x : IsM s.heap r a) (y : IsM s.heap q b) (hu : A.units + 1 < cLine) (k : Q (decide (r = q)) s) : wpAny (model P w) A (eqBool (.ref a) (.ref b)) Q E s := by
  have e : NestedKey.beq (mtK r) (mtK q) = decide (r = q) := by
    rw [← NestedKey.decide_eq]
    exact decide_eq_decide.mpr ⟨mtK_inj, fun z => z ▸ rfl⟩
  exact eqAt_key (mtK r) (mtK q) A s _ _ x.key y.key (by rw [mt_depth, mt_depth]; exact hu) _ _ _ _ (by rw [e]; exact k)
/-- a str or a whole number -/
def Plain1 (v : Value) : Prop := (∃ x t, v = .str x t) ∨ ∃ i t, v = .int i t
theorem ofClass1 {v : Value} (n : Nat) (x : Plain1 v) : ofAClassStatement n v = pure false := by
  rcases x with ⟨y, t, rfl⟩ | ⟨y, t, rfl⟩ <;> cases n <;> rfl
theorem isM_class {Q : Bool → Shared → Prop} (x : IsM s.heap r b) (k : Q false s) : wpAny (model P w) A (ofAClassStatement 8 (.ref b)) Q E s := by
  obtain ⟨o, n, t1, t2, t3, h1, h2, h3⟩ := x
  have pl : ∀ v ∈ [Value.str r.1 t1, .int r.2.1 t2, .int r.2.2 t3], Plain1 v := fun v hv => by
    simp only [List.mem_cons, List.not_mem_nil, or_false] at hv
    rcases hv with rfl | rfl | rfl
    · exact .inl ⟨_, _, rfl⟩
    · exact .inr ⟨_, _, rfl⟩
    · exact .inr ⟨_, _, rfl⟩
  unfold ofAClassStatement
  refine wpAny_bind (wpAny_typeOf ⟨o, h1, h2⟩ ?_)
  dsimp only
  have e : (("tuple" : String) == "tuple") = true := by decide
  simp only [e, if_true, Bool.not_true, Bool.false_eq_true, if_false]
  try refine wpAny_bind (wpAny_pure ?_)
  try simp only [Bool.not_true, Bool.false_eq_true, if_false]
  show wpAny _ _ (seqItems? (.ref b) >>= _) _ _ s
  refine wpAny_bind (wpAny_seqItems h1 h3 ?_)
  dsimp only
  refine wpAny_bind ?_
  show wpAny _ _ (forIn #[Value.str r.1 t1, .int r.2.1 t2, .int r.2.2 t3] _ _) _ _ s
  rw [← Array.forIn_toList]
  refine wpAny_forIn_list _ (fun more g z => g.1 = none ∧ z = s ∧ ∀ v ∈ more, Plain1 v) _ (fun v more g z ⟨hg, hz, hv⟩ => ?_) (fun g z ⟨hg, hz, _⟩ => ?_) _ _ ⟨rfl, rfl, pl⟩
  · subst hz
    rw [ofClass1 _ (hv v List.mem_cons_self)]
    refine wpAny_bind (wpAny_pure ?_)
    simp only [Bool.false_eq_true, if_false]
    exact wpAny_pure ⟨rfl, rfl, fun u hu => hv u (List.mem_cons_of_mem _ hu)⟩
  · obtain ⟨g1, g2⟩ := g
    simp only at hg
    subst hg hz
    exact wpAny_pure k
theorem isM_byValue {Q : Bool → Shared → Prop} (x : IsM s.heap r b) (k : ∀ c, Q c s) : wpAny (model P w) A (hashByValue 8 (.ref b)) Q E s := by
  obtain ⟨o, n, t1, t2, t3, h1, h2, h3⟩ := x
  unfold hashByValue
  refine wpAny_bind (wpAny_specialOf ⟨o, h1, h2⟩ F.slot_tuple_hash.lookup ?_)
  show wpAny _ _ (seqItems? (.ref b) >>= _) _ _ s
  refine wpAny_bind (wpAny_seqItems h1 h3 ?_)
  refine wpAny_bind ?_
  show wpAny _ _ (forIn #[Value.str r.1 t1, .int r.2.1 t2, .int r.2.2 t3] _ _) _ _ s
  rw [← Array.forIn_toList, List.forIn_cons]
  have e1 : ∀ n, hashByValue n (.str r.1 t1) = pure false := fun n => by cases n <;> rfl
  rw [e1]
  refine wpAny_bind (wpAny_bind (wpAny_pure ?_))
  simp only [Bool.not_false, if_true]
  refine wpAny_pure ?_
  exact wpAny_pure (wpAny_pure (k false))
/-- a search among meetings shows nothing -/
theorem isM_seen {Q : Bool → Shared → Prop} (x : IsM s.heap r b) {ys : List Value} (hy : ∀ y ∈ ys, ∃ q c, y = Value.ref c ∧ IsM s.heap q c) (k : Q false s) : wpAny (model P w) A (searchCouldBeSeen (.ref b) ys) Q E s := by
  unfold searchCouldBeSeen
  refine wpAny_bind ?_
  refine wpAny_forIn_list _ (fun more g z => g.1 = none ∧ z = s ∧ ∀ y ∈ more, ∃ q c, y = Value.ref c ∧ IsM s.heap q c) _ (fun v more g z ⟨hg, hz, hv⟩ => ?_) (fun g z ⟨hg, hz, _⟩ => ?_) _ _ ⟨rfl, rfl, hy⟩
  · subst hz
    obtain ⟨q, c, rfl, hc⟩ := hv v List.mem_cons_self
    have go : ∀ y ∈ more, ∃ q c, y = Value.ref c ∧ IsM z.heap q c := fun u hu => hv u (List.mem_cons_of_mem _ hu)
    dsimp only
    by_cases same : (b == c || (carriedByValue (.ref b) && carriedByValue (.ref c))) = true
    · exact wp_if_pos same (wpAny_pure ⟨rfl, rfl, go⟩)
    · refine wp_if_neg same (wpAny_bind (isM_quiet x ?_))
      simp only [Bool.not_true, Bool.false_eq_true, if_false]
      refine wpAny_bind (isM_quiet hc ?_)
      simp only [Bool.not_true, Bool.false_eq_true, if_false]
      refine wpAny_bind (isM_class x ?_)
      simp only [Bool.false_eq_true, if_false]
      refine wpAny_bind (isM_class hc ?_)
      simp only [Bool.false_eq_true, if_false]
      exact wpAny_pure ⟨rfl, rfl, go⟩
  · obtain ⟨g1, g2⟩ := g
    simp only at hg
    subst hg hz
    exact wpAny_pure k
end
end G81
end
section
set_option Elab.async false
set_option linter.all false
set_option maxHeartbeats 8000000
set_option maxRecDepth 100000
namespace G81
open PySem PySem.Spec PyProof.Rows L2
abbrev AM := Addr × Mt
def entM (ha : Mt → Int) (L : List AM) : List (Int × Value) := L.map fun p => (ha p.2, Value.ref p.1)
structure SetM (ha : Mt → Int) (w : World) (h : Heap) (a : Addr) (L : List AM) (es : Array (Int × Value)) (ep : Nat) (t : SetTable) : Prop where
  at_ : ∃ o, h.get? a = some o ∧ o.ExactSet ∧ o.data = .set es ep t
  ents : es.toList = entM ha L
  laid : TabOk t (L.map fun p => ha p.2)
  nd : (L.map (·.2)).Nodup
  mts : ∀ p ∈ L, IsM h p.2 p.1
  led : w.params.followText "set-order" = true ∨ t.led = true
  free : L.length * 5 < t.mask * 3
  few : L.length < 64
section
variable {ha : Mt → Int} {P : Program} {w : World} {A : Around} {E : Value → Shared → Prop} {s : Shared} {a : Addr} {L : List AM} {es : Array (Int × Value)} {ep : Nat} {t : SetTable}
theorem entM_len (h : es.toList = entM ha L) : es.size = L.length := by
  have z := congrArg List.length h
  rwa [entM, List.length_map, Array.length_toList] at z
theorem entM_at (h : es.toList = entM ha L) {i : Nat} {p : AM} (e : L[i]? = some p) : es[i]? = some (ha p.2, Value.ref p.1) := by
  rw [← Array.getElem?_toList, h, entM, List.getElem?_map, e]
  rfl
theorem tab_fits {hs : List Int} (T : TabOk t hs) (z : es.size = hs.length) (l : hs.length ≤ t.mask) : t.fits es.size = true := by
  have z1 := T.sz
  unfold SetTable.fits SetTable.fill
  rw [T.dm, Bool.and_eq_true, beq_iff_eq, decide_eq_true_eq, z1, z]
  exact ⟨rfl, l⟩
theorem SetM.fits (R : SetM ha w s.heap a L es ep t) : t.fits es.size = true :=
  tab_fits R.laid (by rw [List.length_map]; exact entM_len R.ents) (by rw [List.length_map]; have := R.free; omega)
theorem SetM.kept (R : SetM ha w s.heap a L es ep t) : ¬ t.gaveWay = true := by
  unfold SetTable.gaveWay
  rw [mask_odd R.laid.mok]
  decide
/-- the k-th place that is looked at for a hash -/
abbrev stp (m : Nat) (h : Int) (k : Nat) : SetTable.Probe := nth m (runAt m (SetTable.bits h % (m + 1)) (SetTable.bits h)) k
theorem stp_plain (m : Nat) (h : Int) (k : Nat) : (stp m h k).dummy = none := by
  have go : ∀ (n : Nat) (p : SetTable.Probe), p.dummy = none → (nth m p n).dummy = none := by
    intro n
    induction n with
    | zero => exact fun p q => q
    | succ n ih =>
      refine fun p q => ih (adv m p) ?_
      unfold adv
      split <;> exact q
  exact go k _ rfl
theorem stp_on (m : Nat) (h : Int) (c q : Nat) : nth m (stp m h c) q = stp m h (c + q) := (nth_add m c _ q).symm
theorem stp_way (m : Nat) (h : Int) (c q : Nat) : (nth m (stp m h c) q).j = way m h (c + q) := congrArg SetTable.Probe.j (stp_on m h c q)
/-- from the c-th place on -/
theorem look_from (R : SetM ha w s.heap a L es ep t) {x : Addr} {k : Mt} (hx : IsM s.heap k x) (hu : A.units + 1 < cLine) {z : Int} (ez : ha k = z) {K : Nat} (K1 : K < 10 * SetTable.turns t.mask) (K2 : way t.mask z K ∉ t.place.toList)
    (K3 : ∀ c, c < K → way t.mask z c ∈ t.place.toList) {Q : SetFound → Shared → Prop} (yes : k ∈ L.map (·.2) → Q (.there none) s) (no : k ∉ L.map (·.2) → Q (.free (way t.mask z K) false) s) :
    ∀ (f c : Nat) (sd : Option SetTable.Probe), sd.getD (t.probeStart z) = stp t.mask z c → c ≤ K → K - c < f → (∀ (i : Nat) p, L[i]? = some p → p.2 = k → ∃ d, c ≤ d ∧ d < K ∧ t.place.toList[i]? = some (way t.mask z d)) →
      wpAny (model P w) A (setSearchFrom a (.ref x) z true f sd) Q E s := by
  intro f
  induction f with
  | zero => exact fun _ _ _ _ hf _ => absurd hf (Nat.not_lt_zero _)
  | succ f ih =>
    intro c sd hs hc hf hr
    obtain ⟨o, ho, hex, hd⟩ := R.at_
    rw [setSearchFrom_succ]
    refine wpAny_bind (wpAny_setState_of ho hd R.fits ?_)
    dsimp only
    refine wp_if_neg R.kept ?_
    try refine wpAny_bind (wpAny_pure ?_)
    have at_h : ∀ (i : Nat) p, L[i]? = some p → (fun i => (es[i]?.map (·.1)).getD 0) i = ha p.2 := fun i p hp => by
      show (es[i]?.map (·.1)).getD 0 = _
      rw [entM_at R.ents hp]
      rfl
    have sp := go_spec t R.laid.ris R.laid.dm (fun i => (es[i]?.map (·.1)).getD 0) z (10 * SetTable.turns t.mask) (K - c) (stp t.mask z c) (stp_plain ..) (by omega)
      (fun q hq => by rw [stp_way]; exact K3 (c + q) (by omega)) (by rw [stp_way, show c + (K - c) = K by omega]; exact K2)
    rcases sp with ⟨q, i, hq, hi, hh, hno, pr⟩ | ⟨hno, pr⟩
    · rw [stp_way] at hi
      have pr2 : t.probe (fun i => (es[i]?.map (·.1)).getD 0) z (sd.getD (t.probeStart z)) = some (.candidate (way t.mask z (c + q)) i (stp t.mask z (c + (q + 1)))) := by
        rw [hs, ← stp_way, ← stp_on]
        exact pr
      rw [pr2]
      dsimp only
      have il : i < L.length := by
        have l1 := (List.getElem?_eq_some_iff.mp hi).1
        rw [Array.length_toList, R.laid.sz, List.length_map] at l1
        exact l1
      obtain ⟨p, hp⟩ : ∃ p, L[i]? = some p := ⟨_, List.getElem?_eq_getElem il⟩
      have pm : p ∈ L := List.mem_of_getElem? hp
      have on : wpAny (model P w) A (searchRest a (.ref x) z true f es t (way t.mask z (c + q)) i (stp t.mask z (c + (q + 1)))) Q E s := by
        unfold searchRest
        rw [entM_at R.ents hp]
        dsimp only
        refine wpAny_bind (wpAny_holding (isM_eq (R.mts p pm) hx hu ?_))
        refine wpAny_bind (wpAny_setState_of ho hd R.fits ?_)
        dsimp only
        by_cases kk : p.2 = k
        · exact wp_if_pos (by simp [kk]) (wpAny_pure (yes (List.mem_map.mpr ⟨p, pm, kk⟩)))
        · refine wp_if_neg (by simp [kk]) ?_
          try refine wpAny_bind (wpAny_pure ?_)
          rw [sameMem]
          dsimp only
          have sl : t.slot (way t.mask z (c + q)) = .live i := slot_live R.laid.ris hi
          simp only [if_true, sl, entM_at R.ents hp]
          refine wpAny_bind (wpAny_isSame_ref_self (wpAny_bind (wpAny_pure ?_)))
          simp only [if_true]
          refine wp_if_neg (by simp [kk]) (ih (c + (q + 1)) _ rfl (by omega) (by omega) fun i0 p0 h0 k0 => ?_)
          obtain ⟨d, d1, d2, d3⟩ := hr i0 p0 h0 k0
          refine ⟨d, ?_, d2, d3⟩
          rcases Nat.lt_trichotomy d (c + q) with l | l | l
          · refine absurd ((at_h i0 p0 h0).trans ((congrArg ha k0).trans ez)) (hno (d - c) i0 (by omega) ?_)
            rw [stp_way, show c + (d - c) = d by omega]
            exact d3
          · rw [l] at d3
            have s0 := slot_live R.laid.ris d3
            rw [sl] at s0
            injection s0 with s0
            rw [← s0, hp] at h0
            exact absurd ((congrArg Prod.snd (Option.some.inj h0)).trans k0) kk
          · omega
      by_cases hl : t.led = true
      · refine wp_if_neg (by simp [hl]) ?_
        try refine wpAny_bind (wpAny_pure ?_)
        exact on
      · refine wp_if_pos (by simp [hl]) (wpAny_bind (isM_seen hx (fun y hy => ?_) ?_))
        · obtain ⟨e, he, ee⟩ := List.mem_map.mp hy
          have e1 : e ∈ es ∧ e.1 = z := by simpa using he
          have e2 : e ∈ es.toList := by simpa using e1.1
          rw [R.ents] at e2
          obtain ⟨p2, hp2, e3⟩ := List.mem_map.mp e2
          exact ⟨p2.2, p2.1, by rw [← ee, ← e3], R.mts p2 hp2⟩
        · refine wp_if_neg (by decide) ?_
          try refine wpAny_bind (wpAny_pure ?_)
          exact on
    · have pr2 : t.probe (fun i => (es[i]?.map (·.1)).getD 0) z (sd.getD (t.probeStart z)) = some (.empty (way t.mask z K) none) := by
        have e2 : way t.mask z K = (nth t.mask (stp t.mask z c) (K - c)).j := by rw [stp_way, show c + (K - c) = K by omega]
        rw [hs, e2]
        exact pr
      rw [pr2]
      dsimp only
      refine wpAny_pure (no fun hm => ?_)
      obtain ⟨p0, h0, k0⟩ := List.mem_map.mp hm
      obtain ⟨i0, hi0, e0⟩ := List.getElem_of_mem h0
      have h00 : L[i0]? = some p0 := by rw [List.getElem?_eq_getElem hi0, e0]
      obtain ⟨d, d1, d2, d3⟩ := hr i0 p0 h00 k0
      refine hno (d - c) i0 (by omega) ?_ ((at_h i0 p0 h00).trans ((congrArg ha k0).trans ez))
      rw [stp_way, show c + (d - c) = d by omega]
      exact d3
theorem look_at (R : SetM ha w s.heap a L es ep t) {x : Addr} {k : Mt} (hx : IsM s.heap k x) (hu : A.units + 1 < cLine) {Q : SetFound → Shared → Prop} (yes : k ∈ L.map (·.2) → Q (.there none) s)
    (no : ∀ K, k ∉ L.map (·.2) → way t.mask (ha k) K ∉ t.place.toList → (∀ c, c < K → way t.mask (ha k) c ∈ t.place.toList) → Q (.free (way t.mask (ha k) K) false) s) :
    wpAny (model P w) A (setSearch a (.ref x) (ha k) true) Q E s := by
  have fr := R.free
  obtain ⟨K, K1, K2, K3⟩ := R.laid.first (by rw [List.length_map]; omega) (ha k)
  have big : 10 * SetTable.turns t.mask ≤ 1420 := by
    unfold SetTable.turns
    rcases R.laid.mok with e | e | e <;> omega
  unfold setSearch
  refine look_from R hx hu rfl K1 K2 K3 yes (fun hn => no K hn K2 K3) 100000 0 none rfl (Nat.zero_le _) (by omega) fun i p hp hk => ?_
  have hi : (L.map fun p => ha p.2)[i]? = some (ha k) := by
    rw [List.getElem?_map, hp, ← hk]
    rfl
  have il : i < t.place.toList.length := by
    rw [Array.length_toList, R.laid.sz, List.length_map]
    exact (List.getElem?_eq_some_iff.mp hp).1
  obtain ⟨c, hc, e⟩ := R.laid.before K2 hi (List.getElem?_eq_getElem il)
  exact ⟨c, Nat.zero_le _, hc, by rw [List.getElem?_eq_getElem il, e]⟩
theorem entM_order (hr : es.toList = entM ha L) {ord : Array Nat} (hp : ord.toList.Perm (List.range L.length)) :
    ∃ L2, (ord.filterMap (es[·]?)).toList = entM ha L2 ∧ L2.Perm L ∧ (L2.map fun p => ha p.2) = ord.toList.map fun i => (es.map (·.1)).getD i 0 := by
  have go : ∀ l : List Nat, (∀ i ∈ l, i < L.length) → l.filterMap (fun i => es[i]?) = entM ha (l.filterMap fun i => L[i]?) ∧ ((l.filterMap fun i => L[i]?).map fun p => ha p.2) = l.map fun i => (es.map (·.1)).getD i 0 := by
    intro l
    induction l with
    | nil => exact fun _ => ⟨rfl, rfl⟩
    | cons i l ih =>
      intro hl
      obtain ⟨e1, e2⟩ := ih fun j hj => hl j (List.mem_cons_of_mem _ hj)
      have g1 := List.getElem?_eq_getElem (hl i List.mem_cons_self)
      have g2 := entM_at hr g1
      have g3 : (es.map (·.1)).getD i 0 = ha (L[i]'(hl i List.mem_cons_self)).2 := by
        have e5 : (es.map (·.1))[i]? = some (ha (L[i]'(hl i List.mem_cons_self)).2) := by
          rw [Array.getElem?_map, g2]
          rfl
        simp [Array.getD_eq_getD_getElem?, e5]
      refine ⟨?_, ?_⟩
      · rw [List.filterMap_cons_some g2, List.filterMap_cons_some g1, e1]
        rfl
      · rw [List.filterMap_cons_some g1, List.map_cons, List.map_cons, e2, g3]
  obtain ⟨e1, e2⟩ := go ord.toList fun i hi => List.mem_range.mp (hp.mem_iff.mp hi)
  refine ⟨_, by first | (rw [Array.toList_filterMap]; exact e1) | simpa using e1, ?_, e2⟩
  have all : ∀ n, n ≤ L.length → (List.range n).filterMap (fun i => L[i]?) = L.take n := by
    intro n
    induction n with
    | zero => exact fun _ => rfl
    | succ n ih =>
      intro hn
      rw [List.range_succ, List.filterMap_append, ih (Nat.le_of_succ_le hn), List.take_succ, List.filterMap_cons, List.filterMap_nil]
      cases L[n]? <;> rfl
  have z := all L.length (Nat.le_refl _)
  rw [List.take_length] at z
  exact (hp.filterMap _).trans (List.Perm.of_eq z)
theorem relay_M {o : Obj} (ho : s.heap.get? a = some o) (hex : o.ExactSet) (hd : o.data = .set es ep t) (hr : es.toList = entM ha L) (T0 : TabOk t (L.map fun p => ha p.2)) (hm : L.length ≤ t.mask) (nd : (L.map (·.2)).Nodup) (mts : ∀ p ∈ L, IsM s.heap p.2 p.1)
    (ld : w.params.followText "set-order" = true ∨ t.led = true) (few : L.length < 64) {want m2 : Nat} (w1 : SetTable.sizeAbove want - 1 = m2) (w2 : MaskOk m2) (w3 : SetTable.sizeAbove want ≤ 128) (w4 : L.length * 5 < m2 * 3) {Q : Unit → Shared → Prop}
    (k : ∀ h' L' es' ep' t', Heap.SameBut a s.heap h' → SetM ha w h' a L' es' ep' t' → L'.Perm L → Q () { s with heap := h' }) : wpAny (model P w) A (setRelay a want) Q E s := by
  have zl := entM_len hr
  obtain ⟨t', ord, e, hp, T, em, el, e0, ed⟩ := relaid_ok t (hs := es.map (·.1)) (wanted := want) w1 w2 (by rw [Array.size_map, zl]; omega)
  rw [Array.size_map, zl] at hp
  obtain ⟨L2, r1, r2, r3⟩ := entM_order hr hp
  rw [← r3] at T
  have z2 : (ord.filterMap (es[·]?)).size = es.size := by rw [entM_len r1, zl, r2.length_eq]
  rw [setRelay_eq]
  refine wpAny_bind (wpAny_setState_of ho hd (tab_fits T0 (by rw [zl, List.length_map]) (by rw [List.length_map]; exact hm)) ?_)
  dsimp only
  refine wp_if_neg (by rw [sizeLine_eq]; omega) ?_
  try refine wpAny_bind (wpAny_pure ?_)
  rw [e]
  dsimp only
  refine wpAny_bind (wp_if_neg (by rw [z2]; simp) ?_)
  try refine wpAny_bind (wpAny_pure ?_)
  refine wpAny_pure ?_
  dsimp only
  have sb : Heap.SameBut a s.heap (s.heap.update a (Obj.putSet (ord.filterMap (es[·]?)) t')) := Heap.SameBut.update ..
  refine wpAny_storeSet_of ho hd (k _ L2 _ (ep + 1) t' sb ⟨⟨_, store_at ho hd, ⟨hex.1, hex.2.1, hex.2.2⟩, rfl⟩, r1, T, (r2.map (·.2)).nodup_iff.mpr nd, fun p hp => (mts p (r2.mem_iff.mp hp)).but ho hd sb, ?_, ?_, ?_⟩ r2) (by rw [z2, zl, sizeLine_eq]; omega)
  · rw [el]; exact ld
  · rw [r2.length_eq, em]; exact w4
  · rw [r2.length_eq]; exact few
theorem add_M (R : SetM ha w s.heap a L es ep t) {x : Addr} {k : Mt} (hx : IsM s.heap k x) (hu : A.units + 1 < cLine) (room : L.length + 1 < 64) {Q : Bool → Shared → Prop}
    (kQ : ∀ c h' L' es' ep' t', Heap.SameBut a s.heap h' → SetM ha w h' a L' es' ep' t' → (k ∈ L.map (·.2) → L' = L) → (k ∉ L.map (·.2) → L'.Perm ((x, k) :: L)) → Q c { s with heap := h' }) :
    wpAny (model P w) A (setAddHashed a (.ref x) (ha k)) Q E s := by
  obtain ⟨o, ho, hex, hd⟩ := R.at_
  have zl := entM_len R.ents
  have fr := R.free
  unfold setAddHashed
  refine wpAny_holding ?_
  rw [show (100000 : Nat) = 99999 + 1 from rfl, setAddHashedIn_succ]
  refine wpAny_bind (wpAny_setState_of ho hd R.fits ?_)
  dsimp only
  refine wp_if_neg (by simp [byScan, Value.scannable]) ?_
  try refine wpAny_bind (wpAny_pure ?_)
  refine wpAny_bind (look_at R hx hu (fun hm => ?_) fun K hm K2 K3 => ?_)
  · dsimp only
    exact wpAny_pure (kQ false s.heap L es ep t (Heap.SameBut.refl a s.heap) R (fun _ => rfl) fun z => absurd hm z)
  · dsimp only
    refine wpAny_bind (wpAny_setState_of ho hd R.fits ?_)
    dsimp only
    obtain ⟨q1, q2, q3, q4, q5, q6, q7, q8, q9⟩ := R.laid.put K2 K3
    generalize t.put (way t.mask (ha k) K) = pt at q1 q3 q4 q5 q6 q7 q8 q9 ⊢
    obtain ⟨t1, p⟩ := pt
    dsimp only at q1 q3 q4 q5 q6 q7 q8 q9 ⊢
    subst q1
    generalize SetTable.below t.place (way t.mask (ha k) K) = p at q2 q3 ⊢
    have eE : (SetTable.insertAt es p (ha k, Value.ref x)).toList = entM ha (L.take p ++ (x, k) :: L.drop p) := by
      rw [SetTable.toList_insertAt, R.ents]
      unfold entM
      rw [List.map_append, List.map_cons, List.map_take, List.map_drop]
    have eH : (L.map fun p => ha p.2).take p ++ ha k :: (L.map fun p => ha p.2).drop p = (L.take p ++ (x, k) :: L.drop p).map fun p => ha p.2 := by
      rw [List.map_append, List.map_cons, List.map_take, List.map_drop]
    rw [eH] at q3
    have pm := put_perm L p (x, k)
    generalize SetTable.insertAt es p (ha k, Value.ref x) = es1 at eE ⊢
    generalize L.take p ++ (x, k) :: L.drop p = L1 at eE q3 pm
    have l1 : L1.length = L.length + 1 := pm.length_eq
    have z1 := entM_len eE
    have nd1 : (L1.map (·.2)).Nodup := (pm.map (·.2)).nodup_iff.mpr (by rw [List.map_cons]; exact List.nodup_cons.mpr ⟨hm, R.nd⟩)
    -- whatever the flag of hashes says
    have rest : ∀ t2 : SetTable, TabOk t2 (L1.map fun p => ha p.2) → t2.mask = t1.mask → t2.led = t1.led → t2.tooFull = t1.tooFull → wpAny (model P w) A (do
        storeSet a es1 t2
        if (!false && t2.tooFull) = true then do
            setRelay a (SetTable.grown (es.size + 1))
            pure true
          else pure true) Q E s := by
      intro t2 T2 m2 ld2 tf2
      refine wpAny_bind (wpAny_storeSet_of ho hd ?_ (by rw [z1, l1, sizeLine_eq]; omega))
      have sb : Heap.SameBut a s.heap (s.heap.update a (Obj.putSet es1 t2)) := Heap.SameBut.update ..
      have ho1 := store_at (es' := es1) (t' := t2) ho hd
      generalize s.heap.update a (Obj.putSet es1 t2) = h1 at sb ho1 ⊢
      have mts1 : ∀ p ∈ L1, IsM h1 p.2 p.1 := fun p hp => by
        rcases List.mem_cons.mp (pm.mem_iff.mp hp) with e | hp
        · rw [e]; exact hx.but ho hd sb
        · exact (R.mts p hp).but ho hd sb
      have led1 : w.params.followText "set-order" = true ∨ t2.led = true := by rw [ld2, q5]; exact R.led
      have tf : t1.tooFull = decide ((L.length + 1) * 5 ≥ t1.mask * 3) := by
        unfold SetTable.tooFull
        rw [q9, List.length_map]
      by_cases hf : t1.tooFull = true
      · refine wp_if_pos (by simp [tf2, hf]) ?_
        have full : (L.length + 1) * 5 ≥ t1.mask * 3 := by
          rw [tf] at hf
          exact of_decide_eq_true hf
        rw [zl]
        have go : ∀ M, SetTable.sizeAbove (SetTable.grown (L.length + 1)) - 1 = M → MaskOk M → SetTable.sizeAbove (SetTable.grown (L.length + 1)) ≤ 128 → (L.length + 1) * 5 < M * 3 → L.length + 1 ≤ t1.mask →
            wpAny (model P w) A (setRelay a (SetTable.grown (L.length + 1)) >>= fun _ => pure true) Q E { s with heap := h1 } := fun M g1 g2 g3 g4 g5 => by
          refine wpAny_bind (relay_M (s := { s with heap := h1 }) ho1 ⟨hex.1, hex.2.1, hex.2.2⟩ rfl eE T2 (by rw [l1, m2]; exact g5) nd1 mts1 led1 (by rw [l1]; exact room) g1 g2 g3 (by rw [l1]; exact g4) fun h2 L2 es2 ep2 t2 sb2 R2 pm2 => ?_)
          exact wpAny_pure (kQ true h2 L2 es2 ep2 t2 (sb.trans sb2) R2 (fun z => absurd z hm) fun _ => pm2.trans pm)
        have two : (t.mask = 7 ∧ L.length = 4) ∨ (t.mask = 31 ∧ L.length = 18) := by
          rw [q4] at full
          rcases R.laid.mok with e | e | e
          · left; exact ⟨e, by omega⟩
          · right; exact ⟨e, by omega⟩
          · exfalso; omega
        rcases two with ⟨e1, e2⟩ | ⟨e1, e2⟩
        · exact go 31 (by rw [e2, size_20]) (.inr (.inl rfl)) (by rw [e2, size_20]; decide) (by omega) (by rw [q4]; omega)
        · exact go 127 (by rw [e2, size_76]) (.inr (.inr rfl)) (by rw [e2, size_76]; decide) (by omega) (by rw [q4]; omega)
      · refine wp_if_neg (by simp [tf2, hf]) ?_
        refine wpAny_pure (kQ true h1 L1 es1 (ep + 1) t2 sb ⟨⟨_, ho1, ⟨hex.1, hex.2.1, hex.2.2⟩, rfl⟩, eE, T2, nd1, mts1, led1, ?_, by rw [l1]; exact room⟩ (fun z => absurd z hm) fun _ => pm)
        have n : ¬ (L.length + 1) * 5 ≥ t1.mask * 3 := fun q => hf (by rw [tf]; exact decide_eq_true q)
        rw [l1, m2]
        omega
    have rest2 : ∀ c : Bool, wpAny (model P w) A (do
        storeSet a es1 (if c = true then t1 else { t1 with plain := false })
        if (!false && (if c = true then t1 else { t1 with plain := false }).tooFull) = true then do
            setRelay a (SetTable.grown (es.size + 1))
            pure true
          else pure true) Q E s := fun c => by
      cases c
      · exact rest { t1 with plain := false } ⟨q3.ris, q3.dm, q3.sz, q3.mok, q3.bd, q3.reach⟩ rfl rfl rfl
      · exact rest t1 q3 rfl rfl rfl
    by_cases pl : t1.plain = true
    · first
        | (refine wpAny_bind ?_; refine wp_if_pos pl ?_; exact isM_byValue hx fun c => rest2 c)
        | exact wp_if_pos pl (wpAny_bind (isM_byValue hx fun c => rest2 c))
    · first
        | (refine wpAny_bind ?_; refine wp_if_neg pl ?_; exact wpAny_pure (rest2 true))
        | exact wp_if_neg pl (wpAny_bind (wpAny_pure (rest2 true)))
end
end G81
end
section
set_option Elab.async false
set_option linter.all false
set_option maxHeartbeats 8000000
set_option maxRecDepth 100000
namespace G81
open PySem PySem.Spec PyProof.Rows L2
/-- what the first i give -/
structure Met (ks : List AM) (i : Nat) (L : List AM) : Prop where
  sub : ∀ p ∈ L, p ∈ ks.take i
  all : ∀ p ∈ ks.take i, p.2 ∈ L.map (·.2)
  len : L.length ≤ i
theorem Met.on {ks L L' : List AM} {i : Nat} {x : AM} (g : Met ks i L) (h : ks[i]? = some x) (c1 : x.2 ∈ L.map (·.2) → L' = L) (c2 : x.2 ∉ L.map (·.2) → L'.Perm (x :: L)) : Met ks (i + 1) L' := by
  have e : ks.take (i + 1) = ks.take i ++ [x] := by rw [List.take_succ, h]; rfl
  by_cases c : x.2 ∈ L.map (·.2)
  · rw [c1 c]
    refine ⟨fun p hp => by rw [e]; exact List.mem_append_left _ (g.sub p hp), fun p hp => ?_, Nat.le_succ_of_le g.len⟩
    rw [e, List.mem_append, List.mem_singleton] at hp
    exact hp.elim (g.all p) fun z => by rw [z]; exact c
  · have pm := c2 c
    refine ⟨fun p hp => ?_, fun p hp => ?_, by rw [pm.length_eq]; exact Nat.succ_le_succ g.len⟩
    · rw [e, List.mem_append, List.mem_singleton]
      exact (List.mem_cons.mp (pm.mem_iff.mp hp)).elim .inr fun z => .inl (g.sub p z)
    · rw [(pm.map (·.2)).mem_iff, List.map_cons, List.mem_cons]
      rw [e, List.mem_append, List.mem_singleton] at hp
      exact hp.elim (fun z => .inr (g.all p z)) fun z => .inl (by rw [z])
section
variable {P : Program} {w : World} {A : Around} {E : Value → Shared → Prop} {s : Shared}
theorem SetM.keep {h h' : Heap} {a : Addr} {L : List AM} {es : Array (Int × Value)} {ep : Nat} {t : SetTable} (R : SetM (mtH w) w h a L es ep t) (k : ∀ o, h.get? a = some o → h'.get? a = some o) (ms : ∀ p ∈ L, IsM h' p.2 p.1) : SetM (mtH w) w h' a L es ep t := by
  obtain ⟨o, ho, r⟩ := R.at_
  exact ⟨⟨o, k o ho, r⟩, R.ents, R.laid, R.nd, ms, R.led, R.free, R.few⟩
theorem setM_new {h : Heap} {a : Addr} (ho : h.get? a = some (eo w)) : SetM (mtH w) w h a [] #[] 0 (.fresh 0 0 (!w.params.followText "set-order")) where
  at_ := ⟨_, ho, ⟨rfl, rfl, rfl⟩, rfl⟩
  ents := rfl
  laid := ⟨List.Pairwise.nil, rfl, rfl, .inl rfl, fun x hx => (nomatch hx), fun i h j hi => by simp at hi⟩
  nd := List.nodup_nil
  mts := fun p hp => nomatch hp
  led := by
    show _ ∨ (!w.params.followText "set-order") = true
    cases w.params.followText "set-order"
    · exact .inr rfl
    · exact .inl rfl
  free := by show 0 * 5 < 7 * 3; decide
  few := by show 0 < 64; decide
theorem upd_M {I : Addr} {fp wr : List Addr} {G : Array GenState → Array GenState → Prop} {n : Nat} {Pv : Nat → Value → Prop} {St : Nat → Shared → Prop} {R : Result → Shared → Prop}
    (W : WalksS P w A.in1 I fp wr G n Pv St) (S : Addr) (nS : S ∉ fp) (ks : List AM) (pN : n = ks.length) (few : ks.length < 64) (vAt : ∀ i v, Pv i v → ∃ p, ks[i]? = some p ∧ v = .ref p.1)
    (h0 : Heap) (hk : ∀ p ∈ ks, IsM h0 p.2 p.1) (s0 : h0.get? S = none) (w0 : ∀ b ∈ wr, h0.get? b = none) (hu : A.in1.units + 1 < cLine) :
    ∀ (k i : Nat) (s : Shared), n - i = k → i ≤ n → St i s → (∀ b o, h0.get? b = some o → s.heap.get? b = some o) → (∃ L es ep t, SetM (mtH w) w s.heap S L es ep t ∧ Met ks i L) →
      (∀ s' L es ep t, Moved (S :: wr) G s s' → SetM (mtH w) w s'.heap S L es ep t → Met ks n L → (∀ b o, h0.get? b = some o → s'.heap.get? b = some o) → R (.ok (.ret .none)) s') →
      codeAny (model P w) A (.builtin "set.update.loop" ⟨[.ref S, .ref I], []⟩) R s := by
  have nW : S ∉ wr := fun h => nS (W.sub _ h)
  have sW : ∀ b ∈ wr, b ∈ S :: wr := fun b pB => List.mem_cons_of_mem _ pB
  have on : ∀ {s s' : Shared}, Moved wr G s s' → (∀ b o, h0.get? b = some o → s.heap.get? b = some o) → ∀ b o, h0.get? b = some o → s'.heap.get? b = some o := fun pM kp b o e =>
    pM.heap b o (fun hb => by rw [w0 b hb] at e; cases e) (kp b o e)
  intro k
  induction k with
  | zero =>
    intro i s kN iN st0 kp ⟨L, es, ep, t, rS, g⟩ kR
    have iE : i = n := by omega
    subst iE
    refine codeAny_builtin F.entry_set_update_loop ?_
    rw [Around.under_plainId F.plain_set_update_loop _]
    show wpAny _ A.in1 (pyNext (.ref I) >>= _) _ _ s
    refine wpAny_bind (W.done s _ _ st0 fun s' pM => ?_)
    show wpAny _ A.in1 (ret Value.none) _ _ s'
    have kp2 := on pM kp
    exact wpAny_pure (kR s' L es ep t (pM.mono sW) (rS.keep (fun o e => pM.heap S o nW e) fun p hp => (hk p (List.mem_of_mem_take (g.sub p hp))).keep kp2) g kp2)
  | succ k ih =>
    intro i s kN iN st0 kp ⟨L, es, ep, t, rS, g⟩ kR
    have iL : i < n := by omega
    refine codeAny_builtin F.entry_set_update_loop ?_
    rw [Around.under_plainId F.plain_set_update_loop _]
    show wpAny _ A.in1 (pyNext (.ref I) >>= _) _ _ s
    refine wpAny_bind (W.item i s _ _ iL st0 fun v s' vP st1 pM => ?_)
    obtain ⟨p, hp, rfl⟩ := vAt i v vP
    have kp2 := on pM kp
    have rS2 : SetM (mtH w) w s'.heap S L es ep t := rS.keep (fun o e => pM.heap S o nW e) fun q hq => (hk q (List.mem_of_mem_take (g.sub q hq))).keep kp2
    have hx : IsM s'.heap p.2 p.1 := (hk p (List.mem_of_getElem? hp)).keep kp2
    show wpAny _ A.in1 (holding [Value.ref p.1] (setAdd S (.ref p.1)) >>= _) _ _ s'
    refine wpAny_bind (wpAny_holding ?_)
    unfold setAdd
    refine wpAny_holding ?_
    refine wpAny_bind (isM_hash hx hu ?_)
    refine add_M (s := { s' with toks := s'.toks + (mtK p.2).draws }) rS2 hx hu (by have := g.len; omega) fun c h' L' es' ep' t' sB rS3 c1 c2 => ?_
    have kp3 : ∀ b o, h0.get? b = some o → h'.get? b = some o := fun b o e => (sB.2 b fun z => by rw [z, s0] at e; cases e).trans (kp2 b o e)
    refine wpAny_pure ⟨plainId_quiet F.plain_set_update_loop _, ih (i + 1) _ (by omega) iL (W.frame _ s' _ _ st1 (Nat.le_add_right _ _) fun b pB o e => ?_) kp3 ⟨L', es', ep', t', rS3, g.on hp c1 c2⟩ fun s'' L2 es2 ep2 t2 m2 rJ g2 k2 => ?_⟩
    · rw [sB.2 b (fun h : b = S => nS (by rw [← h]; exact pB))]; exact e
    · refine kR s'' L2 es2 ep2 t2 (Moved.trans W.gtrans ((pM.mono sW).then_heap (Nat.le_add_right _ _) fun b o pB e => ?_) m2) rJ g2 k2
      rw [sB.2 b (fun h : b = S => pB (by rw [h]; exact List.mem_cons_self))]; exact e
/-- set.__init__(the new set, a list of meetings) -/
def SetLeftM (w : World) (s : Shared) (ks : List AM) (v : Value) (z : Shared) : Prop :=
  v = .none ∧ ∃ h' tk L es ep t, z = { s with heap := h', toks := tk } ∧ SetM (mtH w) w h' s.heap.objs.size L es ep t ∧ Met ks ks.length L ∧ ∀ b o, s.heap.get? b = some o → h'.get? b = some o
theorem init_lstM {l : Addr} {xs : Array Value} (ks : List AM) (hh : A.handled = none) (hl : s.heap.IsList l xs) (hi : xs.toList = ks.map fun p => Value.ref p.1) (hk : ∀ p ∈ ks, IsM s.heap p.2 p.1) (few : ks.length < 64) (hu : A.units + 5 < cLine) :
    wpAny (model P w) A.in1 (Builtin.«set.__init__» ⟨[.ref s.heap.objs.size, .ref l], []⟩) (fun f t => ∃ v, f = .done (.ret v) ∧ SetLeftM w s ks v t) E { s with heap := s.heap.push (eo w) } := by
  have zs : xs.size = ks.length := by rw [← Array.length_toList, hi, List.length_map]
  have ats : ∀ (i : Nat) (v : Value), xs[i]? = some v → ∃ p, ks[i]? = some p ∧ v = .ref p.1 := fun i v hv => by
    have q : xs.toList[i]? = some v := by rw [Array.getElem?_toList]; exact hv
    rw [hi, List.getElem?_map] at q
    obtain ⟨p, e1, e2⟩ := Option.map_eq_some_iff.mp q
    exact ⟨p, e1, e2.symm⟩
  have pS : (s.heap.push (eo w)).get? s.heap.objs.size = some (eo w) := Heap.get?_push_size _ rfl
  have pT : Shared.TypeIs { s with heap := s.heap.push (eo w) } (.ref s.heap.objs.size) "set" := ⟨_, pS, rfl⟩
  obtain ⟨⟨oc, od, dt, os⟩, hol, hcl, nl, hdl⟩ := hl
  simp only at hcl hdl
  subst hcl hdl
  have pl : (s.heap.push (eo w)).get? l = some ⟨.type "list", od, .seq xs nl, os⟩ := Heap.get?_push_of_some _ hol
  have s1 := F.sub_list_set
  have s2 := F.sub_list_frozenset
  have s3 : (Value.type "list" == Value.type "dict") = false := by decide
  have pL : (s.heap.push (eo w)).IsList l xs := ⟨_, pl, rfl, nl, rfl⟩
  unfold Builtin.«set.__init__» noKeywords Builtin.Frozenset.updateFrom; generalize hp : pyIter = PI; wp_walk; subst hp
  have lS : l < s.heap.objs.size := Heap.lt_size hol
  have zz : (s.heap.push (eo w)).objs.size = s.heap.objs.size + 1 := Heap.size_push ..
  have nI : l ≠ (s.heap.push (eo w)).objs.size := zz ▸ Nat.ne_of_lt (Nat.lt_succ_of_lt lS)
  have nS : s.heap.objs.size ∉ [(s.heap.push (eo w)).objs.size, l] := by
    rw [zz, List.mem_cons, List.mem_singleton]
    exact fun q => q.elim (Nat.ne_of_lt (Nat.lt_succ_self _)) (Nat.ne_of_gt lS)
  have none_of : ∀ b, s.heap.objs.size ≤ b → s.heap.get? b = none := fun b hb => by
    cases q : s.heap.get? b with
    | none => rfl
    | some o => exact absurd (Nat.lt_of_lt_of_le (Heap.lt_size q) hb) (Nat.lt_irrefl _)
  refine wpAny_pyIter_list pL (wpAny_bind (wpAny_runValue ?_))
  refine upd_M (Walks.list (by simpa using hh) _ l nI xs).toS s.heap.objs.size nS ks zs few ats s.heap hk (none_of _ (Nat.le_refl _)) (fun b hb => none_of b (by rw [List.mem_singleton.mp hb, zz]; exact Nat.le_succ _)) (by
    have e1 : A.in1.in1.units = A.units + 2 := rfl
    omega) (xs.size - 0) 0 _ (by omega) (Nat.zero_le _) ⟨⟨_, Heap.get?_push_size _ rfl, rfl, rfl⟩, pL.push _⟩
    (fun b o e => Heap.get?_push_of_some _ (Heap.get?_push_of_some _ e)) ⟨[], #[], 0, _, setM_new (Heap.get?_push_of_some _ pS), ⟨fun p h => (nomatch h), fun p h => (by simp at h), Nat.le_refl _⟩⟩ fun t L es ep tb hm hR g kp => ?_
  obtain ⟨g1, g2, d2, k2, o2⟩ := t
  have y1 : g2 = s.gens := hm.gens
  have y2 : d2 = s.drawn := hm.drawn
  have y3 : o2 = s.os := hm.os
  subst y1 y2 y3
  refine wpAny_pure (?_ : wpAny _ _ (ret Value.none) _ _ _)
  rw [zs] at g
  exact wpAny_pure ⟨_, rfl, rfl, g1, k2, L, es, ep, tb, rfl, hR, g, kp⟩
theorem call_set_M {l : Addr} {xs : Array Value} (ks : List AM) {Q : Value → Shared → Prop} (hh : A.handled = none) (hl : s.heap.IsList l xs) (hi : xs.toList = ks.map fun p => Value.ref p.1) (hk : ∀ p ∈ ks, IsM s.heap p.2 p.1) (few : ks.length < 64) (hu : A.units + 10 < cLine)
    (h : ∀ h' tk L es ep t, SetM (mtH w) w h' s.heap.objs.size L es ep t → Met ks ks.length L → (∀ b o, s.heap.get? b = some o → h'.get? b = some o) → Q (.ref s.heap.objs.size) { s with heap := h', toks := tk }) : wpAny (model P w) A (call (.type "set") [.ref l]) Q E s := by
  obtain ⟨c0, tl, c1⟩ := F.called_set.mro
  have c2 := F.called_set.made
  have c3 := F.called_set.sub
  have c4 := F.called_set.notType
  have c5 := F.called_set.canCreate
  have c6 := F.typeCall_set_1 (.ref l)
  refine wpAny_call (codeAny_of_tree (?_ : wpAny _ _ (callAny (.type "set") _) _ _ _))
  refine wpAny_pure ⟨Code.quiet_builtin _ (by decide +kernel), codeAny_builtin F.entry_type_call ?_⟩
  rw [Around.under_plain (weight_type_call_type "set" [.ref l] []) rfl]
  repeat (any_goals (first | assumption | wp_step))
  refine codeAny_mono (code_set_led1 (.ref l) (E := E) (Q₁ := fun v t => v = .ref s.heap.objs.size ∧ t = { s with heap := s.heap.push (eo w) }) ⟨rfl, rfl⟩) fun r t hr => ?_
  match r, hr with
  | .error e, hr => exact hr
  | .ok (.ret v), hr =>
    obtain ⟨rfl, rfl⟩ := hr
    have pS : (s.heap.push (eo w)).get? s.heap.objs.size = some (eo w) := Heap.get?_push_size _ rfl
    have pT : Shared.TypeIs { s with heap := s.heap.push (eo w) } (.ref s.heap.objs.size) "set" := ⟨_, pS, rfl⟩
    have d1 := F.called_set.init.lookup
    have d2 := F.called_set.init.bind (.ref s.heap.objs.size)
    repeat (any_goals (first | assumption | wp_step))
    refine codeAny_mono (codeAny_call_builtin (R := wants (SetLeftM w s ks) E) F.called_set.init.plain F.entry_set_init (check_set_init_1 pT ?_)) fun r2 t2 hr2 => ?_
    · refine wpAny_mono (init_lstM (A := A.in1) ks (by simpa using hh) hl hi hk few (by have e1 : A.in1.units = A.units + 1 := rfl; omega)) (fun f t q => ?_) fun _ _ e => e
      obtain ⟨v, rfl, q⟩ := q
      exact q
    · match r2, hr2 with
      | .error e, hr2 => exact hr2
      | .ok (.ret v), hr2 =>
        obtain ⟨rfl, h', tk, L, es, ep, t, rfl, k1, k2, k3⟩ := hr2
        repeat (any_goals (first | assumption | wp_step))
        exact h _ _ _ _ _ _ k1 k2 k3
end
theorem mem_nubT {k : Mt} : ∀ {l : List Mt}, k ∈ nubT l ↔ k ∈ l
  | [] => Iff.rfl
  | x :: r => by
    rw [nubT, List.mem_cons, List.mem_filter, mem_nubT (l := r), List.mem_cons]
    by_cases e : k = x
    · simp [e]
    · simp [e]
theorem nodup_nubT : ∀ l : List Mt, (nubT l).Nodup
  | [] => List.nodup_nil
  | x :: r => by
    rw [nubT, List.nodup_cons]
    refine ⟨fun h => ?_, (nodup_nubT r).filter _⟩
    have z := (List.mem_filter.mp h).2
    simp at z
theorem nubT_of {l l' : List Mt} (n : l'.Nodup) (m : ∀ k, k ∈ l' ↔ k ∈ l) : l'.Perm (nubT l) := (List.perm_ext_iff_of_nodup n (nodup_nubT l)).mpr fun k => by rw [m, mem_nubT]
theorem leT_val (a b : Mt) : leT a b = !(if b.1 = a.1 then (if b.2.1 = a.2.1 then (if b.2.2 = a.2.2 then false else decide (b.2.2 < a.2.2)) else decide (b.2.1 < a.2.1)) else decide (b.1.cps.toList < a.1.cps.toList)) := by
  unfold leT leb ltb mtD
  simp only [D.toP, D.toPs]
  congr 1
  have z : PyProof.Rows.lexLt PyProof.Rows.itemOrd (PySem.W.keyToksAll []) (PySem.W.keyToksAll []) = false := PyProof.Rows.lex_irrefl _
  rw [PySem.W.dataLt_tuple, PySem.W.dataLt_cons (by simp [PySem.W.alike]), PySem.W.dataLt_cons (by simp [PySem.W.alike]), PySem.W.dataLt_cons (by simp [PySem.W.alike]), z, PySem.W.dataLt_int, PySem.W.dataLt_int, PySem.W.dataLt_str]
  simp only [PyData.eqv, beq_iff_eq]
theorem leT_anti {a b : Mt} (h1 : leT a b = true) (h2 : leT b a = true) : a = b := by
  rw [leT_val] at h1 h2
  obtain ⟨n, x, y⟩ := a
  obtain ⟨n', x', y'⟩ := b
  simp only [Bool.not_eq_true'] at h1 h2
  by_cases e1 : n' = n
  · subst e1
    rw [if_pos rfl] at h1 h2
    by_cases e2 : x' = x
    · subst e2
      rw [if_pos rfl] at h1 h2
      by_cases e3 : y' = y
      · rw [e3]
      · rw [if_neg e3, decide_eq_false_iff_not] at h1
        rw [if_neg (fun e => e3 e.symm), decide_eq_false_iff_not] at h2
        exact absurd (Int.le_antisymm (Int.not_lt.mp h2) (Int.not_lt.mp h1)) e3
    · rw [if_neg e2, decide_eq_false_iff_not] at h1
      rw [if_neg (fun e => e2 e.symm), decide_eq_false_iff_not] at h2
      exact absurd (Int.le_antisymm (Int.not_lt.mp h2) (Int.not_lt.mp h1)) e2
  · rw [if_neg e1, decide_eq_false_iff_not] at h1
    rw [if_neg (fun e => e1 e.symm), decide_eq_false_iff_not] at h2
    have hc : n'.cps = n.cps := Array.toList_inj.mp (List.le_antisymm (List.not_lt.mp h2) (List.not_lt.mp h1))
    exfalso
    apply e1
    cases n; cases n'
    simp only [Str.mk.injEq]
    exact hc
theorem leT_tr (a b c : Mt) (h1 : leT a b = true) (h2 : leT b c = true) : leT a c = true := by
  unfold leT leb ltb PySem.W.dataLt at *
  simp only [Bool.not_eq_true'] at *
  cases q : PyProof.Rows.lexLt PyProof.Rows.itemOrd (PySem.W.keyToks (mtD c).toP) (PySem.W.keyToks (mtD a).toP) with
  | false => rfl
  | true =>
    rcases PyProof.Rows.lex_negTrans _ (PySem.W.keyToks (mtD b).toP) _ q with z | z
    · rw [z] at h2; cases h2
    · rw [z] at h1; cases h1
theorem leT_to (a b : Mt) : (leT a b || leT b a) = true := by
  unfold leT leb ltb PySem.W.dataLt
  cases q : PyProof.Rows.lexLt PyProof.Rows.itemOrd (PySem.W.keyToks (mtD b).toP) (PySem.W.keyToks (mtD a).toP) with
  | false => rfl
  | true =>
    cases z : PyProof.Rows.lexLt PyProof.Rows.itemOrd (PySem.W.keyToks (mtD a).toP) (PySem.W.keyToks (mtD b).toP) with
    | false => rfl
    | true =>
      have c := PyProof.Rows.lex_trans _ _ _ q z
      rw [PyProof.Rows.lex_irrefl] at c
      cases c
theorem sortT_perm {l l' : List Mt} (p : l'.Perm l) : l'.mergeSort leT = l.mergeSort leT := by
  refine List.Perm.eq_of_pairwise (le := fun a b => leT a b = true) (fun a b _ _ => leT_anti) (List.pairwise_mergeSort leT_tr leT_to l') (List.pairwise_mergeSort leT_tr leT_to l) ?_
  exact (List.mergeSort_perm l' _).trans (p.trans (List.mergeSort_perm l _).symm)
theorem perm_lift {α β : Type} {f : α → β} {l m : List β} (p : l.Perm m) : ∀ L : List α, m = L.map f → ∃ L1 : List α, L1.Perm L ∧ l = L1.map f := by
  induction p with
  | nil => intro L e; exact ⟨[], by cases L with | nil => exact .nil | cons _ _ => simp at e, rfl⟩
  | cons x _ ih =>
    intro L e
    cases L with
    | nil => simp at e
    | cons y L =>
      rw [List.map_cons, List.cons.injEq] at e
      obtain ⟨L1, p1, e1⟩ := ih L e.2
      exact ⟨y :: L1, p1.cons y, by rw [List.map_cons, e.1, e1]⟩
  | swap x y l =>
    intro L e
    match L, e with
    | u :: v :: L, e =>
      simp only [List.map_cons, List.cons.injEq] at e
      exact ⟨v :: u :: L, List.Perm.swap .., by simp only [List.map_cons, e]⟩
  | trans _ _ ih1 ih2 =>
    intro L e
    obtain ⟨L1, p1, e1⟩ := ih2 L e
    obtain ⟨L2, p2, e2⟩ := ih1 L1 e1
    exact ⟨L2, p2.trans p1, e2⟩
open PySem.W in
theorem each_refs : ∀ L : List AM, EachIs (fun v (p : AM) => v = Value.ref p.1) (L.map fun p => Value.ref p.1) L
  | [] => .nil
  | p :: L => .cons rfl (each_refs L)
open PySem.W in
theorem refs_each : ∀ {vs : List Value} {L : List AM}, EachIs (fun v (p : AM) => v = Value.ref p.1) vs L → vs = L.map fun p => Value.ref p.1
  | _, _, .nil => rfl
  | _, _, .cons e r => by rw [e, refs_each r, List.map_cons]
open PySem.W in
theorem each_imp {β : Type} {R R' : Value → β → Prop} : ∀ {vs : List Value} {L : List β}, EachIs R vs L → (∀ v, ∀ p ∈ L, R v p → R' v p) → EachIs R' vs L
  | _, _, .nil, _ => .nil
  | _, _, .cons e r, h => .cons (h _ _ List.mem_cons_self e) (each_imp r fun v p hp => h v p (List.mem_cons_of_mem _ hp))
theorem isM_reads {h : Heap} {r : Mt} {a : Addr} (x : IsM h r a) : ∃ as, Reads h (.ref a) (mtD r).toP as := by
  obtain ⟨o, n, t1, t2, t3, h1, h2, h3⟩ := x
  exact ⟨_, .tuple h1 h2 h3 (.cons (.str _ _) (.cons (.int _ _) (.cons (.int _ _) .nil)))⟩
section
variable {P : Program} {w : World} {A : Around} {E : Value → Shared → Prop} {s : Shared} {a : Addr}
open PySem.W in
theorem sorted_M {L : List AM} {es : Array (Int × Value)} {ep : Nat} {t : SetTable} {Q : Value → Shared → Prop} (R : SetM (mtH w) w s.heap a L es ep t) (hh : A.handled = none) (hu : A.units + 70 < cLine)
    (hQ : ∀ s' p (out : Array Value) (c : Nat) (L' : List AM), (∀ b o, s.heap.get? b = some o → s'.heap.get? b = some o) → s'.gens = s.gens → s'.os = s.os → s.heap.objs.size ≤ p →
      s'.heap.get? p = some (seqObj "list" out c) → out.toList = L'.map (fun q => Value.ref q.1) → L'.Perm L → L'.map (·.2) = (L.map (·.2)).mergeSort leT → Q (.ref p) s') :
    wpAny (model P w) A (call (.builtin "sorted") [.ref a]) Q E s := by
  obtain ⟨o, ho, hex, hd⟩ := R.at_
  have zl := entM_len R.ents
  have few := R.few
  refine call_function_entry_kw kind_sorted plain_sorted entry_sorted (args_sorted1 _) (?_ : wpAny (model P w) _ _ _ _ _)
  unfold Builtin.«sorted»
  refine wpAny_bind (m := checkCount "sorted" 1 1 _) (wpAny_pure (wpAny_bind (collect_set (A := A.in1) hh ⟨o, ho, hex.1, hd⟩ R.fits (by unfold scanBound; omega) R.laid.ris R.led fun s1 vs k1 hz g1 o1 pm => ?_)))
  have e0 : es.toList.map (·.2) = L.map fun q => Value.ref q.1 := by
    rw [R.ents, entM, List.map_map]
    rfl
  rw [e0] at pm
  obtain ⟨L1, p1, rfl⟩ := perm_lift pm L rfl
  have vl : (L1.map fun q => Value.ref q.1).length < 64 := by rw [List.length_map, p1.length_eq]; exact few
  have vz : (L1.map fun q => Value.ref q.1).length ≤ sizeLine := by rw [sizeLine_eq]; omega
  generalize hvs : (L1.map fun q => Value.ref q.1) = vs at vl vz
  have ee : EachIs (fun v (p : AM) => v = Value.ref p.1) vs L1 := hvs ▸ each_refs L1
  refine wpAny_bind (wpAny_newList (?_ : wpAny (model P w) _ _ _ _ { s1 with heap := s1.heap.push (seqObj "list" vs.toArray 0) }) vz)
  have oL : (s1.heap.push (seqObj "list" vs.toArray 0)).get? s1.heap.objs.size = some (seqObj "list" vs.toArray 0) := Heap.get?_push_size _ rfl
  have ms : ∀ p ∈ L1, IsM (sortingHeap (s1.heap.push (seqObj "list" vs.toArray 0)) s1.heap.objs.size vs) p.2 p.1 := fun p hp => by
    obtain ⟨o', n', t1, t2, t3, h1, h2⟩ := R.mts p (p1.mem_iff.mp hp)
    have h3 := k1 _ _ h1
    exact ⟨o', n', t1, t2, t3, sortingHeap_old (Nat.ne_of_lt (Heap.lt_size h3)) (Heap.get?_push_of_some _ h3), h2⟩
  generalize hH : s1.heap.push (seqObj "list" vs.toArray 0) = H2 at oL ms
  have er2 : EachIs (fun v b => ∃ as, Reads (sortingHeap H2 s1.heap.objs.size vs) v ((fun p : AM => (mtD p.2).toP) b) as) vs L1 := each_imp ee fun v p hp e => by
    rw [e]
    exact isM_reads (ms p hp)
  have hal : AllAlike (L1.map fun p : AM => (mtD p.2).toP) := fun d hd d' hd' => by
    obtain ⟨x, _, rfl⟩ := List.mem_map.mp hd
    obtain ⟨y, _, rfl⟩ := List.mem_map.mp hd'
    simp [mtD, D.toP, D.toPs, alike, alikeAll]
  have hk : Sortable (L1.map fun p : AM => (mtD p.2).toP) := .inl fun d hd => by
    obtain ⟨x, _, rfl⟩ := List.mem_map.mp hd
    exact ⟨_, _, rfl⟩
  have S : SortsAt P w A.in1.in1 { s1 with heap := sortingHeap H2 s1.heap.objs.size vs } (dataKind (sortingHeap H2 s1.heap.objs.size vs) (L1.map fun p : AM => (mtD p.2).toP)) vs :=
    SortsAt.data (s := { s1 with heap := sortingHeap H2 s1.heap.objs.size vs }) (each_map (R := fun v d => ∃ as, Reads (sortingHeap H2 s1.heap.objs.size vs) v d as) (fun p : AM => (mtD p.2).toP) er2) hal hk fun d hd => by
      obtain ⟨x, _, rfl⟩ := List.mem_map.mp hd
      have e1 : ((mtD x.2).toP).depth ≤ 3 := by simp [mtD, D.toP, D.toPs, PyData.depth, PyData.depthAll]
      have e2 : A.in1.in1.units = A.units + 2 := rfl
      omega
  have sd := refs_each (sortVals_data (enc := fun p : AM => (mtD p.2).toP) false ee er2 hal)
  refine wpAny_bind (wpAny_holding (wpAny_call_entry_kw slot_list_sort ⟨_, oL, rfl⟩ entry_list_sort (?_ : wpAny (model P w) A.in1.in1 (Builtin.«list.sort» ⟨[.ref s1.heap.objs.size], []⟩) _ _ _) (args_list_sort _)))
  refine list_sort_vals (s := { s1 with heap := H2 }) oL S vz ⟨_, rfl, wpAny_pure ⟨_, rfl, ?_⟩⟩
  obtain ⟨c, hc⟩ := sortedHeap_at (vs := vs) (out := (sortVals (dataKind (sortingHeap H2 s1.heap.objs.size vs) (L1.map fun p : AM => (mtD p.2).toP)) false vs vs).toArray) oL
  refine hQ _ s1.heap.objs.size _ c (L1.mergeSort (dataLe false fun p : AM => (mtD p.2).toP)) (fun b u e => ?_) g1 o1 hz hc (by simpa using sd) ((List.mergeSort_perm _ _).trans p1) ?_
  · have q := k1 b u e
    have hlt := Heap.lt_size q
    show (sortedHeap H2 s1.heap.objs.size vs _).get? b = some u
    rw [sortedHeap_old (Nat.ne_of_lt hlt) (by rw [← hH, size_push']; exact Nat.lt_succ_of_lt hlt), ← hH]
    exact Heap.get?_push_of_some _ q
  · rw [List.map_mergeSort (f := fun p : AM => p.2) (r := dataLe false fun p : AM => (mtD p.2).toP) (s := leT) fun a _ b _ => rfl]
    exact sortT_perm (p1.map _)
end
theorem refs_of_vals' : ∀ {ks : List AM} {us : List Value}, Vals (ks.map fun p => V.ref p.1) us → us = ks.map fun p => Value.ref p.1
  | [], _, .nil => rfl
  | p :: ks, _, .cons r t => by
    cases r
    rw [refs_of_vals' t]
    rfl
theorem vals_of_refs' : ∀ ks : List AM, Vals (ks.map fun p => V.ref p.1) (ks.map fun p => Value.ref p.1)
  | [] => .nil
  | p :: ks => .cons rfl (vals_of_refs' ks)
theorem isM_of {X : Cx} {pins : List (Addr × Obj)} {σ : L2.St} {H : Hp} {s : Shared} {a : Addr} {r : Mt} (I : Inv X pins σ H s) (h : SqT X.K H a [.str r.1, .int r.2.1, .int r.2.2]) : IsM s.heap r a := by
  obtain ⟨its, rv, ⟨o, ho, hc, n, hd⟩, _⟩ := I.tuple h
  match its, rv, hd with
  | _, .cons ⟨t1, e1⟩ (.cons ⟨t2, e2⟩ (.cons ⟨t3, e3⟩ .nil)), hd =>
    subst e1 e2 e3
    exact ⟨o, n, t1, t2, t3, ho, hc, hd⟩
theorem mts_rep {G : Gx} {F : Hp} : ∀ {ds : List D} {ts : List Mt} {vs : List V}, mtR? ds = some ts → Reps G F ds vs → ∃ ks : List AM, ts = ks.map (·.2) ∧ vs = ks.map (fun p => V.ref p.1) ∧ ∀ p ∈ ks, Rd F p.1 (.tup [.str p.2.1, .int p.2.2.1, .int p.2.2.2])
  | [], ts, vs, e, h => by
    rw [show vs = [] from h]
    cases e
    exact ⟨[], rfl, rfl, fun p hp => nomatch hp⟩
  | d :: r, ts, vs, e, h => by
    obtain ⟨v, w, rfl, h1, h2⟩ := h
    unfold mtR? at e
    split at e
    · cases ‹_ :: _ = _›
    · rename_i heq
      cases heq
      obtain ⟨ts', e1, rfl⟩ := Option.map_eq_some_iff.mp e
      obtain ⟨ks, rfl, rfl, hk⟩ := mts_rep e1 h2
      obtain ⟨p, us, rfl, hp, q⟩ := h1
      obtain ⟨v1, w1, rfl, g1, v2, w2, rfl, g2, v3, w3, rfl, g3, g4⟩ := q
      have g1 : v1 = V.str _ := g1
      have g2 : v2 = V.int _ := g2
      have g3 : v3 = V.int _ := g3
      have g4 : w3 = [] := g4
      subst g1 g2 g3 g4
      refine ⟨(p, _, _, _) :: ks, rfl, rfl, fun q hq => ?_⟩
      rcases List.mem_cons.mp hq with rfl | hq
      · exact hp
      · exact hk q hq
    · cases e
theorem reps_mts {G : Gx} {F : Hp} : ∀ L : List AM, (∀ q ∈ L, Rd F q.1 (.tup [.str q.2.1, .int q.2.2.1, .int q.2.2.2])) → Reps G F ((L.map (·.2)).map mtD) (L.map fun q => V.ref q.1)
  | [], _ => rfl
  | p :: L, h => ⟨.ref p.1, _, rfl, ⟨p.1, _, rfl, h p List.mem_cons_self, _, _, rfl, rfl, _, _, rfl, rfl, _, _, rfl, rfl, rfl⟩, reps_mts L fun q hq => h q (List.mem_cons_of_mem _ hq)⟩
section
variable {X : Cx} {Wx : WX} {a : Expr} {pos : Pos} {fa : En → G81.R D} {la : En → Bool}
def tSortSet4 (K : PySem.W.Frag) (ta : TE) : TE := fun σ H Q => ta σ H fun x H1 => ∃ l : Addr, x = .ref l ∧
  ((∃ ns : List Int, (SqT K H1 l (ns.map V.int) ∨ SqL K H1 l (ns.map V.int)) ∧ ns.length < 60 ∧ ∀ (ms : List Int) (p : Addr), ms.Pairwise (· < ·) → (∀ k : Int, k ∈ ms ↔ k ∈ ns) → H1 p = none → Q (.ref p) (upd H1 p (.lst (ms.map V.int)))) ∨
   (∃ ss : List Str, SqL K H1 l (ss.map V.str) ∧ ss.length < 60 ∧ ∀ p : Addr, H1 p = none → Q (.ref p) (upd H1 p (.lst (((nubS ss).mergeSort leS).map V.str)))) ∨
   (∃ ks : List AM, SqL K H1 l (ks.map fun p => V.ref p.1) ∧ (∀ p ∈ ks, SqT K H1 p.1 [.str p.2.1, .int p.2.2.1, .int p.2.2.2]) ∧ ks.length < 60 ∧
     ∀ (L : List AM) (p : Addr), (∀ q ∈ L, q ∈ ks) → L.map (·.2) = (nubT (ks.map (·.2))).mergeSort leT → H1 p = none → Q (.ref p) (upd H1 p (.lst (L.map fun q => V.ref q.1)))))
theorem pe_sortset4 {ta : TE} {p p2 q : Pos} (hc : X.calm = true) (hu : X.A.units + 70 < cLine) (hg : Gl X "sorted") (hm : X.mg "sorted" = none) (hg2 : Gl X "set") (hm2 : X.mg "set" = none) (ha : PE X a ta) (na : starEach [a] X.env = (false, eval a X.env) :: starEach [] X.env) :
    PE X (.Call (.Name "sorted" p) [.Call (.Name "set" p2) [a] [] q] [] pos) (tSortSet4 X.K ta) := by
  refine ⟨fun pins s σ H Q I h => ?_⟩
  refine Call_ (ld_blt I hg hm (u := .builtin "sorted") (by decide +kernel) (PyProof.Rows.callWith_builtin1 (PyProof.Rows.args_cons (?_ : wpAny _ _ _ _ _ _) rfl) rfl rfl))
  refine Call_ (ld_blt I hg2 hm2 (u := .type "set") (by decide +kernel) (PyProof.Rows.callWith_type1 (PyProof.Rows.args_cons (thn (ha.run pins s σ H _ I h) fun v s1 ⟨x, H1, I1, r1, q1⟩ => PyProof.Rows.args_nil ?_) na) na rfl))
  obtain ⟨l, rfl, q1⟩ := q1
  cases r1
  rcases q1 with ⟨ns, hq, hl, q1⟩ | ⟨ss, hq, hl, q1⟩ | ⟨ks, hq, hk, hl, q1⟩
  · have fin : ∀ (h' : Heap) (tk c : Nat), SetR X.w h' s1.heap.objs.size (fun j => decide (j ∈ ns)) c → c ≤ ns.length → (∀ b o, s1.heap.get? b = some o → h'.get? b = some o) → wpAny (model X.prog X.w) X.A (call (.builtin "sorted") [.ref s1.heap.objs.size]) (EP X pins σ Q) X.xe { s1 with heap := h', toks := tk } := by
      intro h' tk c hS hcl hk
      have I2 : Inv X pins σ H1 { s1 with heap := h', toks := tk } := I1.kept fun b o e => hk b o e
      refine sorted_set hS (I2.ok.hd hc) (by omega) fun s' p out c2 ms k g o hp hgt hi hsr hme hln => ?_
      have hno : H1 p = none := I2.hok.fresh hp
      have hsz : (ms.map V.int).length ≤ sizeLine := by rw [List.length_map, hln, sizeLine_eq]; omega
      generalize ({ s1 with heap := h', toks := tk } : Shared) = s2 at I2 k g o hp
      have J : Inv X pins σ (upd H1 p (.lst (ms.map V.int))) { s2 with heap := s'.heap, gens := s'.gens, drawn := s'.drawn, toks := s'.toks } := by
        refine I2.call (ch := []) (Un.laid k hp hno) (I2.hok.laid k hp ⟨hsz, out.toList, c2, vals_of_ints hi, hgt⟩) (by rw [g]; exact I2.bare) (fun _ z => nomatch z)
      have e : s' = { s2 with heap := s'.heap, gens := s'.gens, drawn := s'.drawn, toks := s'.toks } := by
        cases s'; cases s2; cases o; rfl
      rw [e]
      exact ⟨.ref p, _, J, rfl, q1 ms p hsr (fun j => by rw [hme]; simp) hno⟩
    rcases hq with hq | hq
    · obtain ⟨its, r, pt, hz⟩ := I1.tuple hq
      exact call_set_tupI ns (I1.ok.hd hc) pt (by simpa using vals_intsAre r) (by unfold PySem.scanBound; omega) fun h' tk c hS hcl hk => PyProof.Rows.args_nil (fin h' tk c hS hcl hk)
    · obtain ⟨its, r, pt, hz⟩ := I1.list hq
      exact call_set_lst ns (I1.ok.hd hc) pt.isList (by simpa using vals_intsAre r) (by unfold PySem.scanBound; omega) fun h' tk c hS hcl hk => PyProof.Rows.args_nil (fin h' tk c hS hcl hk)
  · obtain ⟨its, r, pt, hz⟩ := I1.list hq
    refine call_set_lstS ss (I1.ok.hd hc) pt.isList (by simpa using Vals.strs r) (by unfold PySem.scanBound; omega) fun h' tk c hS hcl hk => PyProof.Rows.args_nil ?_
    have I2 : Inv X pins σ H1 { s1 with heap := h', toks := tk } := I1.kept fun b o e => hk b o e
    refine sorted_setS hS (I2.ok.hd hc) (by omega) hu fun s' p out c2 k g o hp hgt hi => ?_
    have hno : H1 p = none := I2.hok.fresh hp
    have hln := nubS_len ss
    have hsz : (((nubS ss).mergeSort leS).map V.str).length ≤ sizeLine := by rw [List.length_map, List.length_mergeSort, sizeLine_eq]; omega
    generalize ({ s1 with heap := h', toks := tk } : Shared) = s2 at I2 k g o hp
    have J : Inv X pins σ (upd H1 p (.lst (((nubS ss).mergeSort leS).map V.str))) { s2 with heap := s'.heap, gens := s'.gens, drawn := s'.drawn, toks := s'.toks } := by
      refine I2.call (ch := []) (Un.laid k hp hno) (I2.hok.laid k hp ⟨hsz, out.toList, c2, vals_of_strs hi, hgt⟩) (by rw [g]; exact I2.bare) (fun _ z => nomatch z)
    have e : s' = { s2 with heap := s'.heap, gens := s'.gens, drawn := s'.drawn, toks := s'.toks } := by
      cases s'; cases s2; cases o; rfl
    rw [e]
    exact ⟨.ref p, _, J, rfl, q1 p hno⟩
  · obtain ⟨its, r, pt, hz⟩ := I1.list hq
    refine call_set_M ks (I1.ok.hd hc) pt.isList (by simpa using refs_of_vals' r) (fun p hp => isM_of I1 (hk p hp)) (by omega) (by omega) fun h' tk L es ep t R g k => PyProof.Rows.args_nil ?_
    have I2 : Inv X pins σ H1 { s1 with heap := h', toks := tk } := I1.kept fun b o e => k b o e
    refine sorted_M R (I2.ok.hd hc) hu fun s' p out c2 L' k g2 o hp hgt ho pm so => ?_
    have hno : H1 p = none := I2.hok.fresh hp
    have hln : L'.length < 64 := by rw [pm.length_eq]; exact R.few
    have hsz : (L'.map fun q => V.ref q.1).length ≤ sizeLine := by rw [List.length_map, sizeLine_eq]; omega
    have hv : Vals (L'.map fun q => V.ref q.1) out.toList := by rw [ho]; exact vals_of_refs' L'
    generalize ({ s1 with heap := h', toks := tk } : Shared) = s2 at I2 k g2 o hp
    have J : Inv X pins σ (upd H1 p (.lst (L'.map fun q => V.ref q.1))) { s2 with heap := s'.heap, gens := s'.gens, drawn := s'.drawn, toks := s'.toks } := by
      refine I2.call (ch := []) (Un.laid k hp hno) (I2.hok.laid k hp ⟨hsz, out.toList, c2, hv, hgt⟩) (by rw [g2]; exact I2.bare) (fun _ z => nomatch z)
    have e : s' = { s2 with heap := s'.heap, gens := s'.gens, drawn := s'.drawn, toks := s'.toks } := by
      cases s'; cases s2; cases o; rfl
    rw [e]
    refine ⟨.ref p, _, J, rfl, q1 L' p (fun q hq => List.mem_of_mem_take (g.sub q (pm.mem_iff.mp hq))) ?_ hno⟩
    rw [so]
    refine sortT_perm (nubT_of R.nd fun q => ?_)
    have g1 := g.sub
    have g3 := g.all
    rw [List.take_length] at g1 g3
    refine ⟨fun hq => ?_, fun hq => ?_⟩
    · obtain ⟨y, hy, rfl⟩ := List.mem_map.mp hq
      exact List.mem_map.mpr ⟨y, g1 y hy, rfl⟩
    · obtain ⟨y, hy, rfl⟩ := List.mem_map.mp hq
      exact g3 y hy
theorem d_sortset {p p2 q : Pos} (hc : X.calm = true) (hu : X.A.units + 70 < cLine) (hg : Gl X "sorted") (hm : X.mg "sorted" = none) (hg2 : Gl X "set") (hm2 : X.mg "set" = none) (ha : PE X a (tBo (gx X) Wx fa la)) (he : nst a = true) :
    PE X (.Call (.Name "sorted" p) [.Call (.Name "set" p2) [a] [] q] [] pos) (tD (gx X) Wx fun ρ => (fa ρ).bind fun u => sortedsetEv [u]) :=
  PE_imp (pe_sortset4 hc hu hg hm hg2 hm2 ha (starEach_one he)) fun σ H Q ⟨F0, H0, F, ρ, R, o⟩ => by
    refine ⟨F0, H0, F, ρ, R, o.bind.imp (fun u _ o2 => ?_) (fun _ h => h)⟩
    intro F1 H1 x E1 bx _
    have o4 := Out.nox (thr' := fun _ => False) o2 (nox_bi .sortedset [u])
    have o4 : Out (sortedsetEv [u]) (okW (gx X) F H Q) (fun _ => False) := o4
    cases u with
    | tup ds =>
      have o5 : Out (if ds.length < 60 then (G81.R.of (ints? ds)).map fun is => W.fl (((nubI is).mergeSort fun i j => decide (i ≤ j)).map D.int) else .stuck) (okW (gx X) F H Q) (fun _ => False) := o4
      split at o5
      · rename_i hlen
        obtain ⟨is, e, o3⟩ := (Out.map o5).of
        obtain ⟨pa, vs, rfl, hp, rr⟩ := bx
        have ev := ints_rep e rr
        subst ev
        have hl := rr.length
        rw [List.length_map] at hl
        refine ⟨pa, rfl, .inl ⟨is, .inl (.inl (rd_mono E1.fh hp)), by omega, fun ms pp h1 h2 h3 => ?_⟩⟩
        rw [← sortset_eq h1 h2] at o3
        exact okW.fl (okW.ext o3 E1) E1.fh (reps_int ms) h3
      · exact o5.elim
    | lst ds =>
      have o5 : Out (if ds.length < 60 then (G81.R.of (sortSet? ds)).map W.fl else .stuck) (okW (gx X) F H Q) (fun _ => False) := o4
      split at o5
      · rename_i hlen
        obtain ⟨es, e, o3⟩ := (Out.map o5).of
        obtain ⟨pa, vs, rfl, hp, rr⟩ := bx
        unfold sortSet? at e
        split at e
        · rename_i is ei
          cases e
          have ev := ints_rep ei rr
          subst ev
          have hl := rr.length
          rw [List.length_map] at hl
          refine ⟨pa, rfl, .inl ⟨is, .inr (.inl hp), by omega, fun ms pp h1 h2 h3 => ?_⟩⟩
          rw [← sortset_eq h1 h2] at o3
          exact okW.fl (okW.ext o3 E1) E1.fh (reps_int ms) h3
        · split at e
          · rename_i ss es'
            cases e
            have ev := strs_rep es' rr
            subst ev
            have hl := rr.length
            rw [List.length_map] at hl
            exact ⟨pa, rfl, .inr (.inl ⟨ss, .inl hp, by omega, fun pp h3 => okW.fl (okW.ext o3 E1) E1.fh (reps_str _) h3⟩)⟩
          · obtain ⟨ts, es', rfl⟩ := Option.map_eq_some_iff.mp e
            obtain ⟨ks, ek, rfl, hk⟩ := mts_rep es' rr
            have hl := rr.length
            rw [List.length_map] at hl
            refine ⟨pa, rfl, .inr (.inr ⟨ks, .inl hp, fun p hp => .inl (rd_mono E1.fh (hk p hp)), by omega, fun L pp h1 h2 h3 => ?_⟩)⟩
            rw [ek, ← h2] at o3
            exact okW.fl (okW.ext o3 E1) E1.fh (reps_mts L fun q hq => hk q (h1 q hq)) h3
      · exact o5.elim
    | _ => exact (show False from o4).elim
end
end G81
end
section
set_option Elab.async false
set_option linter.all false
set_option maxHeartbeats 8000000
namespace G81
open PySem PySem.Spec PyProof.Rows L2
section
variable {X : Cx} {Wx : WX} {a : Expr} {pos : Pos} {fa : En → G81.R D} {la : En → Bool}
theorem d_listrange1 {p p2 q : Pos} (hc : X.calm = true) (hg : Gl X "list") (hm : X.mg "list" = none) (hg2 : Gl X "range") (hm2 : X.mg "range" = none) (ha : PE X a (tBo (gx X) Wx fa la)) (na : nst a = true) :
    PE X (.Call (.Name "list" p) [.Call (.Name "range" p2) [a] [] q] [] pos) (tD (gx X) Wx fun ρ => (fa ρ).bind fun u => listrangeEv [u]) :=
  PE_imp (pe_listRg hc hg hm (prg_1 hg2 hm2 ha (na := starEach_one na)) rfl) fun σ H Q ⟨F0, H0, F, ρ, R, o⟩ => by
    refine ⟨F0, H0, F, ρ, R, o.bind.imp (fun u _ p2 => ?_) (fun _ h => h)⟩
    intro F1 H1 x E1 bx _
    have p5 := Out.nox (thr' := fun _ => False) p2 (nox_bi .listrange [u])
    have p6 : Out (listrangeEv [u]) (okW (gx X) F H Q) (fun _ => False) := p5
    cases u with
    | int n =>
      have p7 : Out (if rngOk 0 n = true then G81.R.ok (W.fl (intsTo 0 n.toNat)) else .stuck) (okW (gx X) F H Q) (fun _ => False) := p6
      split at p7
      · rename_i hr
        have ex : x = .int n := bx
        subst ex
        have hr2 : -1000000 ≤ n ∧ n ≤ 1000000 := by
          simp only [rngOk, Bool.and_eq_true, decide_eq_true_eq] at hr
          omega
        refine ⟨n, rfl, ⟨by omega, by omega, by omega, by omega, by omega⟩, fun q hq => ?_⟩
        have okk : okW (gx X) F H Q (W.fl (intsTo 0 n.toNat)) := p7
        have ev : rgV 0 n = (List.range n.toNat).map fun k : Nat => V.int (0 + (k : Int)) := by
          unfold rgV
          rw [show n - 0 = n by omega]
        rw [ev]
        exact okW.fl (okW.ext okk E1) E1.fh (reps_rng _ _) hq
      · exact p7.elim
    | _ => exact (show False from p6).elim
theorem d_dnew : PE X (.Dict [] [] pos) (tD (gx X) Wx fun _ => .ok (.fd [])) :=
  PE_imp pe_dnewK fun σ H Q ⟨F0, H0, F, ρ, R, o⟩ => fun p hp => by
    have o2 : okW (gx X) F H Q (.fd []) := o
    exact okW.fd o2 R.fh rfl hp
end
end G81
end
section
set_option Elab.async false
set_option linter.all false
set_option maxHeartbeats 8000000
namespace G81
open PySem PySem.Spec PyProof.Rows L2
section
variable {X : Cx} {Wx : WX} {a : Expr} {pos : Pos} {fa : En → G81.R D} {la : En → Bool}
/-- what is asked of the classes of errors, about the test cv -/
def IsxOk (X : Cx) (t : Str) (cs : List Str) (cv : Value) : Prop := ∀ c ∈ cs, ∀ C, X.mg c = some (.ref C) → ExcC X.K C ∧ PySem.W.kitOne X.K (.ref C) cv = some (decide (t = "ValueError") || decide (c = t))
def rIsX (G : Gx) (t : Str) (cs : List Str) (c : V) : List V → Hp → VK → Prop := fun xs H Q => ∃ F d x, Same F H ∧ BRep G F H d x ∧ xs = [x, c] ∧ ans G F H Q (isxEv d t cs)
theorem call_isX {t : Str} {cs : List Str} {c : V} {cv : Value} (hcv : ∀ u, RelV c u → u = cv) (hx : IsxOk X t cs cv) : CallR X (.builtin "isinstance") (rIsX (gx X) t cs c) := by
  intro pins s σ H xs us Q I r h
  obtain ⟨F, d, x, sF, b, rfl, o⟩ := h
  obtain ⟨u1, u2, rfl, r1, r2⟩ := vals2 r
  have e2 := hcv _ r2
  subst e2
  unfold isxEv at o
  split at o
  · rename_i c'
    split at o
    · rename_i hc
      obtain ⟨p, C, e, hm, hF⟩ := b
      subst e
      cases r1
      obtain ⟨hE, hk⟩ := hx c' hc C hm
      obtain ⟨⟨oe, he, hz, vs, hv⟩, _⟩ := I.hok p _ (sF _ _ hF)
      have J : PySem.W.InstAt s.heap p oe C none := by
        obtain ⟨oc, od, oda, osl⟩ := oe
        obtain ⟨h1, h2⟩ := hz
        dsimp only at h1 h2 hv
        subst h1 h2 hv
        exact ⟨he, rfl, rfl, trivial⟩
      exact PySem.W.kia_one (PySem.W.handS_kitx_exc hE.hg hE.hk hE.hs hE.hd hE.ha hE.hn hE.ht hE.hm) I.kIn J hk (fun z => nomatch z) fun tk => ⟨.bl _, H, I.kept (t' := tk) fun _ _ z => z, rfl, okW.scal o sF fun _ => rfl⟩
    · exact o.elim
  · exact o.elim
theorem d_isx {t : Str} {cs : List Str} {c : V} {cv : Value} {p p2 : Pos} (hgl : Gl X ("isinstance" : Str)) (hm : X.mg ("isinstance" : Str) = none) (hcv : ∀ u, RelV c u → u = cv) (hx : IsxOk X t cs cv) (hn : PE X (.Name t p2) (tC c)) (ha : PE X a (tBo (gx X) Wx fa la)) (he : nst a = true) :
    PE X (.Call (.Name ("isinstance" : Str) p) [a, .Name t p2] [] pos) (tD (gx X) Wx fun ρ => (fa ρ).bind fun u => isxEv u t cs) := by
  have hs : starEach [a, .Name t p2] X.env = (false, eval a X.env) :: starEach [.Name t p2] X.env := by
    cases a <;> first | rfl | cases he
  refine PE_imp (pe_callB (call_isX hcv hx) hgl hm (by decide +kernel) (pa_cons ha (pa_cons hn pa_nil) hs) (by decide +kernel) (by decide +kernel) hs rfl) fun σ H Q ⟨F0, H0, F, ρ, R, o⟩ => ?_
  refine ⟨F0, H0, F, ρ, R, o.bind.imp (fun u _ o2 => ?_) (fun _ h => h)⟩
  intro F1 H1 x E1 bx _
  refine ⟨F1, u, x, E1.fh, bx, rfl, (Out.nox o2 ?_).imp (fun w _ q => q.ext E1) fun _ h => h⟩
  unfold isxEv
  split
  · split <;> exact fun c => by simp
  · exact fun c => by simp
end
end G81
end
section
set_option Elab.async false
set_option linter.all false
set_option maxHeartbeats 4000000
namespace G81
open PySem PySem.Spec L2
abbrev W0 : WX := fun _ _ _ _ => False
/-- what is new but at D goes on changing -/
theorem ext_app {F H F' H' : Hp} {D : Addr} {o : HO} (E : Ext F H F' H') (hD : H D = none) (fD : F' D = none) : Ext F H F' (upd H' D o) :=
  ⟨E.ff, fun b x e => by rw [upd_ne (ne_of_none e hD)]; exact E.hh _ _ e, fun b x e => by rw [upd_ne (ne_of_none e fD)]; exact E.fh _ _ e, E.new⟩
theorem Ext.keepFree {F H F' H' : Hp} {D : Addr} {o : HO} (E : Ext F H F' H') (hD : H D = some o) (fD : F D = none) : F' D = none := by
  cases e : F' D with
  | none => rfl
  | some x =>
    rcases E.new D x e with z | z
    · rw [fD] at z; cases z
    · rw [hD] at z; cases z
theorem compL_cons {g : Pt} {t : En → R Bool} {el : En → R D} {ρ : En} {d : D} {r xs : List D} (h : compL g t el ρ (d :: r) = .ok xs) :
    ∃ ρ1 b, asgn g d ρ = some ρ1 ∧ t ρ1 = .ok b ∧ ((b = false ∧ compL g t el ρ r = .ok xs) ∨ (b = true ∧ ∃ x rest, el ρ1 = .ok x ∧ compL g t el ρ r = .ok rest ∧ xs = x :: rest)) := by
  unfold compL at h
  split at h
  · cases h
  · rename_i ρ1 e1
    split at h
    · rename_i e2
      split at h
      · rename_i x e3
        split at h
        · rename_i rest e4
          exact ⟨ρ1, true, e1, e2, .inr ⟨rfl, x, rest, e3, e4, by cases h; rfl⟩⟩
        · cases h
      · cases h
    · rename_i e2
      exact ⟨ρ1, false, e1, e2, .inl ⟨rfl, h⟩⟩
    · cases h
theorem map_ok {α β : Type} {f : α → β} {r : R α} {b : β} (h : r.map f = .ok b) : ∃ a, r = .ok a ∧ b = f a := by
  cases r with
  | ok a => cases h; exact ⟨a, rfl, rfl⟩
  | exc c => cases h
  | stuck => cases h
theorem compL_nox {g : Pt} {t : En → R Bool} {el : En → R D} : ∀ (l : List D) (ρ : En), Nox (compL g t el ρ l)
  | [], ρ => nox_ok
  | d :: r, ρ => by
    unfold compL
    split
    · exact nox_stuck
    · split
      · split
        · split
          · exact nox_ok
          · exact nox_stuck
        · exact nox_stuck
      · exact compL_nox r ρ
      · exact nox_stuck
section
variable {X : Cx} {Wx : WX}
/-- a comprehension's turns, once the walked thing J is known -/
theorem comp_read {F0 : Fr} {H0 F H F1 H1 B : Hp} {ρ : En} {σ : St} {Q : VK} {J : L2.It} {ds xs : List D} {g : Pt} {ft : En → R Bool} {fe : En → R W} {own : List Nat} (R : Rel (gx X) F0 H0 ρ F σ H) (E1 : Ext F H F1 H1) (sB : Same B H1) (jok : JOk (gx X) B F1 J ds)
    (hsl : ∀ i ∈ g.slots, i ∈ own) (ex : compL g ft (fun ρ1 => (fe ρ1).map W.toD) (wipeE ρ own) ds = .ok xs) (hsz : xs.length ≤ SIZE) (q : okW (gx X) F H Q (.fl xs)) :
    ∀ D, H1 D = none → ∃ W : Nat → Nat → Hp → Prop, (∃ m, W 0 m (upd H1 D (.lst []))) ∧ ∀ i m H, W i m H →
      (J.stop i H ∧ Q (.ref D) H) ∨ (J.go i H ∧ ∃ Nx : Hp → Prop, (∀ H', Nx H' → ∃ m', m' < m ∧ W (i + 1) m' H') ∧ ∀ x H', J.yld i H x H' → gPt X.K g x (L2.wipe σ own) H' fun σ2 H2 => L2.wipe σ2 own = L2.wipe σ own ∧ tTt (gx X) W0 ft σ2 H2 fun b H3 =>
        if b = true then tD (gx X) W0 fe σ2 H3 fun y H4 => ∃ acc, H4 D = some (.lst acc) ∧ acc.length < sizeLine ∧ Nx (upd H4 D (.lst (acc ++ [y]))) else Nx H3) := by
  intro D nD
  have nDH : H D = none := E1.hh.free nD
  refine ⟨fun i m Hc => ∃ F' acc done rest, Ext F H F' Hc ∧ Same F1 F' ∧ Same B Hc ∧ Hc D = some (.lst acc) ∧ F' D = none ∧ Reps (gx X) F' done acc ∧ i + m = ds.length ∧
    compL g ft (fun ρ1 => (fe ρ1).map W.toD) (wipeE ρ own) (ds.drop i) = .ok rest ∧ done ++ rest = xs, ⟨ds.length, F1, [], [], xs, ?_, Same.refl _, ?_, upd_same, ?_, rfl, ?_, ?_, rfl⟩, fun i m Hc hw => ?_⟩
  · exact ext_app E1 nDH (E1.fh.free nD)
  · exact sB.trans (same_upd nD)
  · exact E1.fh.free nD
  · omega
  · exact ex
  · obtain ⟨F', acc, done, rest, E, s1, s2, hD, fD, rd, em, er, ed⟩ := hw
    have jk := jok F' Hc s1 E.fh s2
    by_cases hlt : i < ds.length
    · have edrop : ds.drop i = ds[i] :: ds.drop (i + 1) := List.drop_eq_getElem_cons hlt
      obtain ⟨jg, jy⟩ := jk.1 i ds[i] (List.getElem?_eq_getElem hlt)
      refine .inr ⟨jg, fun H' => ∃ m', m' < m ∧ ∃ F' acc done rest, Ext F H F' H' ∧ Same F1 F' ∧ Same B H' ∧ H' D = some (.lst acc) ∧ F' D = none ∧ Reps (gx X) F' done acc ∧ (i + 1) + m' = ds.length ∧
        compL g ft (fun ρ1 => (fe ρ1).map W.toD) (wipeE ρ own) (ds.drop (i + 1)) = .ok rest ∧ done ++ rest = xs, fun H' z => z, fun x Hy y => ?_⟩
      obtain ⟨F2, E2, rx⟩ := jy x Hy y
      rw [edrop] at er
      obtain ⟨ρ1, b, ea, eb, hb⟩ := compL_cons er
      have R2 := (R.wipe own).ext (E.trans E2)
      refine pt_ok (G := gx X) ea rx R2 fun σ1 R3 hwp => ⟨?_, F0, H0, F2, ρ1, R3, ?_⟩
      · rw [hwp _ hsl, wipe_twice]
      · rw [eb]
        intro F3 H3 E3
        have E13 := (E.trans E2).trans E3
        have hD3 : H3 D = some (.lst acc) := E3.hh _ _ (E2.hh _ _ hD)
        have fD3 : F3 D = none := (E2.trans E3).keepFree hD fD
        have s13 : Same F1 F3 := s1.trans (E2.ff.trans E3.ff)
        have s23 : Same B H3 := s2.trans (E2.hh.trans E3.hh)
        rcases hb with ⟨rfl, er⟩ | ⟨rfl, x', rest', ew, ec, er⟩
        · show ∃ m', _
          exact ⟨m - 1, by omega, F3, acc, done, rest, E13, s13, s23, hD3, fD3, rd.mono (E2.ff.trans E3.ff), by omega, er, ed⟩
        · show tD (gx X) W0 fe σ1 H3 _
          refine ⟨F0, H0, F3, ρ1, R3.ext E3, ?_⟩
          obtain ⟨w, ew2, rfl⟩ := map_ok ew
          rw [ew2]
          intro F4 H4 yv E4 wr
          obtain ⟨F5, E5, _, ry⟩ := E4.freeze wr
          have hD4 : H4 D = some (.lst acc) := E4.hh _ _ hD3
          have fD5 : F5 D = none := E5.keepFree hD3 fD3
          have hlen : acc.length < sizeLine := by
            rw [rd.length]
            have h2 : (SIZE : Nat) < sizeLine := by decide
            have h3 : done.length < xs.length := by rw [← ed, er, List.length_append, List.length_cons]; omega
            omega
          refine ⟨acc, hD4, hlen, m - 1, by omega, F5, acc ++ [yv], done ++ [w.toD], rest', ext_app (E13.trans E5) nDH fD5, s13.trans E5.ff, ?_, upd_same, fD5, ?_, by omega, ec, ?_⟩
          · intro b' x' e'
            have hb : b' ≠ D := by
              rintro rfl
              have := sB _ _ e'
              rw [nD] at this
              cases this
            rw [upd_ne hb]
            exact (s23.trans E5.hh) _ _ e'
          · exact (rd.mono ((E2.ff.trans E3.ff).trans E5.ff)).append (.one ry)
          · rw [← ed, er, List.append_assoc]
            rfl
    · have ei : i = ds.length := by omega
      subst ei
      have e0 : ds.drop ds.length = [] := List.drop_length
      rw [e0] at er
      have er : [] = rest := by cases er; rfl
      subst er
      rw [List.append_nil] at ed
      subst ed
      exact .inl ⟨jk.2, q F' Hc (.ref D) E ⟨D, acc, rfl, nDH, fD, hD, rd⟩⟩
theorem d_comp {elt tg iter : Expr} {ifs : List Expr} {scope : Scope} {own : List (Str × Nat)} {pos : Pos} {fi : En → R (List D × Bool)} {ft : En → R Bool} {fe : En → R W} {g : Pt} (hc : X.calm = true) (hN : X.N.Nodup)
    (hi : PI X tg iter (iD (gx X) Wx fi)) (ok : BlkOk X.N X.env.scope scope own) (hsl : ∀ i ∈ g.slots, i ∈ own.map (·.2))
    (hg : ∀ (s : Shared) (H : Hp) (C : Addr) (cl : List (Str × Addr)) (fp : List Addr), PG (X.blk s H scope (compEnvC scope cl C X.env) fp) tg (gPt X.K g))
    (ht : ∀ (s : Shared) (H : Hp) (C : Addr) (cl : List (Str × Addr)) (fp : List Addr), PTs (X.blk s H scope (compEnvC scope cl C X.env) fp) ifs (tTt (gx X) W0 ft))
    (he : ∀ (s : Shared) (H : Hp) (C : Addr) (cl : List (Str × Addr)) (fp : List Addr), PE (X.blk s H scope (compEnvC scope cl C X.env) fp) elt (tD (gx X) W0 fe)) (hs : ∀ x, foldedSetIterable iter X.env x = pure x) :
    ∃ t, (∀ σ H Q, tD (gx X) Wx (fun ρ => (fi ρ).bind fun dsb => (compL g ft (fun ρ1 => (fe ρ1).map W.toD) (wipeE ρ (own.map (·.2))) dsb.1).bind fun xs => (sizeOk xs).map .fl) σ H Q → t σ H Q) ∧
      PE X (.ListComp elt [⟨tg, iter, ifs, 0⟩] scope pos) t ∧
      ∀ (i : Nat) (y : Str) (py spos : Pos), X.N[i]? = some y → X.env.scope.names.lookup y = some .local → swapsWith (.ListComp elt [⟨tg, iter, ifs, 0⟩] scope pos) (some (.Name y py)) spos.line X.env = pure true →
        PS X (.Assign [.Name y py] (.ListComp elt [⟨tg, iter, ifs, 0⟩] scope pos) spos) (tAsg t (gName i)) := by
  refine ⟨_, fun σ H Q h => ?_, pe_lc hc hN hi ok hg ht he hs, fun i y py spos h1 h2 h3 => ps_setLc hc hN h1 h2 h3 hi ok hg ht he hs⟩
  obtain ⟨F0, H0, F, ρ, R, o⟩ := h
  refine ⟨F0, H0, F, ρ, R, o.bind.imp (fun dsb _ o2 => ?_) (fun _ h => h)⟩
  intro F1 H1 J B E1 sB _ jok
  obtain ⟨ds, lb⟩ := dsb
  have o3 := Out.bind o2
  cases ex : compL g ft (fun ρ1 => (fe ρ1).map W.toD) (wipeE ρ (own.map (·.2))) ds with
  | stuck => dsimp only at o3; rw [ex] at o3; exact o3.elim
  | exc c => exact (compL_nox _ _ c ex).elim
  | ok xs =>
    dsimp only at o3
    rw [ex] at o3
    have o4 : Out (sizeOk xs) (fun x => okW (gx X) F H Q (.fl x)) _ := Out.map o3
    unfold sizeOk at o4
    split at o4
    case isFalse => exact o4.elim
    rename_i hsz
    have q : okW (gx X) F H Q (.fl xs) := o4
    exact comp_read R E1 sB jok hsl ex hsz q
end
end G81
end
section
set_option Elab.async false
set_option linter.all false
set_option maxHeartbeats 4000000
namespace G81
open PySem PySem.Spec L2
/-- values, one behind the other -/
def gsEv : List (En → R W) → En → R (List D)
  | [], _ => .ok []
  | g :: r, ρ => (g ρ).bind fun w => (gsEv r ρ).map fun ds => w.toD :: ds
section
variable {X : Cx} {Wx : WX}
theorem tp_ok {F0 : Fr} {H0 : Hp} {ρ : En} {σ : L2.St} : ∀ (gs : List (Str × (En → R W))) {F H : Hp} {Q : List (V × V) → Hp → Prop}, Rel (gx X) F0 H0 ρ F σ H →
    Out (gsEv (gs.map fun g => g.2) ρ) (fun ds => ∀ F' H' us, Ext F H F' H' → Reps (gx X) F' ds us → Q ((gs.map fun g => V.str g.1).zip us) H') (fun c => Thr (gx X) Wx c F σ H) → tPairs (gs.map fun g => (tC (.str g.1), tD (gx X) Wx g.2)) σ H Q
  | [], F, H, Q, R, o => o F H [] (Ext.refl R.fh) rfl
  | g :: r, F, H, Q, R, o => by
    refine ⟨F0, H0, F, ρ, R, (Out.bind o).imp (fun w _ o2 => ?_) fun _ h => h⟩
    intro F' H' v E wr
    obtain ⟨F2, E2, _, rv⟩ := E.freeze wr
    refine tp_ok r (R.ext E2) ((Out.map o2).imp (fun ds _ k => ?_) fun _ h => h.ext E2)
    intro F3 H3 us E3 rs
    exact k F3 H3 (v :: us) (E2.trans E3) ⟨v, us, rfl, rv.mono E3.ff, rs⟩
theorem disp_rep {F : Hp} : ∀ (ss : List Str) {ds : List D} {us : List V} {kvs : List (Key × D)}, pairs? (zipD (ss.map .str) ds) = some kvs → Reps (gx X) F ds us → RepKs (gx X) F kvs ((ss.map fun s => (Sum.inr s : Key)).zip us)
  | [], ds, us, kvs, h, r => by
    cases h
    rfl
  | s :: ss, [], us, kvs, h, r => by
    rw [show us = [] from r]
    cases h
    rfl
  | s :: ss, d :: ds, us, kvs, h, r => by
    obtain ⟨v, w, e, r1, r2⟩ := r
    subst e
    rw [List.map_cons, zipD, pairs?] at h
    cases hp : pairs? (zipD (ss.map .str) ds) with
    | none => rw [hp] at h; cases h
    | some kv2 =>
      rw [hp] at h
      cases h
      exact ⟨v, _, rfl, r1, disp_rep ss hp r2⟩
theorem d_disp {keys : List (Option Expr)} {values : List Expr} {pos : Pos} (gs : List (Str × (En → R W))) (hp : PPs X pos keys values (gs.map fun g => (tC (.str g.1), tD (gx X) Wx g.2))) (hall : keys.all (·.isSome) = true) (hl : keys.length = values.length) (h0 : keys ≠ []) (h15 : keys.length ≤ 15) (hg : gs.length = keys.length) :
    PE X (.Dict keys values pos) (tD (gx X) Wx fun ρ => (gsEv (gs.map fun g => g.2) ρ).bind fun b => (R.of (pairs? (zipD (gs.map fun g => D.str g.1) b))).map fun kvs => .fd (mergeD [] kvs)) :=
  PE_imp (pe_disp hp hall hl h0 h15) fun σ H Q ⟨F0, H0, F, ρ, R, o⟩ => fun p np => by
    have E0 : Ext F H F (upd H p (.dK [])) := Ext.own R.fh np
    have fp : F p = none := R.fh.free np
    refine tp_ok gs (R.ext E0) ((Out.bind o).imp (fun ds _ o2 => ?_) fun _ h => h.ext E0)
    intro F' H' us E rs
    obtain ⟨kvs, ek, k⟩ := (Out.map o2).of
    have em : (gs.map fun g => D.str g.1) = (gs.map fun g => g.1).map D.str := by rw [List.map_map]; rfl
    rw [em] at ek
    have rk := disp_rep (X := X) _ ek rs
    have fp' := E.keepFree upd_same fp
    refine ⟨E.hh _ _ upd_same, ((gs.map fun g => g.1).map fun s => (Sum.inr s : Key)).zip us, ?_, ?_, ?_⟩
    · have hz : ∀ (l : List (Str × (En → G81.R W))) (us : List V), (l.map fun g => V.str g.1).zip us = (((l.map fun g => g.1).map fun s => (Sum.inr s : Key)).zip us).map fun kv => (kV kv.1, kv.2) := by
        intro l
        induction l with
        | nil => intro us; rfl
        | cons a r ih =>
          intro us
          cases us with
          | nil => rfl
          | cons u us =>
            simp only [List.map_cons, List.zip_cons_cons]
            rw [ih us]
            rfl
      exact hz gs us
    · rw [List.length_zip, List.length_map, List.length_map, hg]
      omega
    · exact k F' _ (.ref p) (ext_app (E0.trans E) np fp') ⟨p, _, rfl, np, fp', upd_same, mergeD_rep rk rfl⟩
end
end G81
end
section
set_option Elab.async false
set_option linter.all false
set_option maxHeartbeats 4000000
namespace G81
open PySem PySem.Spec L2
section
variable {G : Gx} {F F' H H' : Hp}
/-- what may be read, and the errors, are there again -/
structure Ag (F F' : Hp) : Prop where
  rd : ∀ a w, (∀ o x, w ≠ HO.frz o x) → Rd F a w → Rd F' a w
  ex : ∀ a C, F a = some (ExK C a) → F' a = some (ExK C a)
mutual
theorem Rep.tr (s : Ag F F') : ∀ (d : D) {v : V}, Rep G F d v → Rep G F' d v
  | .non, _, h => h
  | .bl _, _, h => h
  | .int _, _, h => h
  | .str _, _, h => h
  | .tup ds, _, h => by
    obtain ⟨a, vs, e, h1, h2⟩ := h
    exact ⟨a, vs, e, s.rd _ _ (fun _ _ z => nomatch z) h1, Reps.tr s ds h2⟩
  | .lst ds, _, h => by
    obtain ⟨a, vs, e, h1, h2⟩ := h
    exact ⟨a, vs, e, s.rd _ _ (fun _ _ z => nomatch z) h1, Reps.tr s ds h2⟩
  | .dic kvs, _, h => by
    obtain ⟨a, us, e, h1, h2⟩ := h
    exact ⟨a, us, e, s.rd _ _ (fun _ _ z => nomatch z) h1, RepKs.tr s kvs h2⟩
  | .exc _, _, h => by
    obtain ⟨a, C, e, m, q⟩ := h
    exact ⟨a, C, e, m, s.ex _ _ q⟩
  | .fn _, _, h => h
theorem Reps.tr (s : Ag F F') : ∀ (ds : List D) {vs : List V}, Reps G F ds vs → Reps G F' ds vs
  | [], _, h => h
  | d :: r, _, h => by
    obtain ⟨v, w, e, h1, h2⟩ := h
    exact ⟨v, w, e, Rep.tr s d h1, Reps.tr s r h2⟩
theorem RepKs.tr (s : Ag F F') : ∀ (kvs : List (Key × D)) {us : List (Key × V)}, RepKs G F kvs us → RepKs G F' kvs us
  | [], _, h => h
  | (k, d) :: r, _, h => by
    obtain ⟨v, w, e, h1, h2⟩ := h
    exact ⟨v, w, e, Rep.tr s d h1, RepKs.tr s r h2⟩
end
theorem exk_frz {C a : Addr} {o : Obj} {u : HO} : ExK C a ≠ .frz o u := fun z => by
  unfold ExK at z
  cases z
theorem exk_dk {C a : Addr} {us : List (Key × V)} : ExK C a ≠ .dK us := fun z => by
  unfold ExK at z
  cases z
theorem ag_lock {d : Addr} {od : Obj} {us : List (Key × V)} (h : F d = some (.dK us)) : Ag F (upd F d (.frz od (.dK us))) := by
  refine ⟨fun a w nf r => ?_, fun a C e => ?_⟩
  · by_cases ha : a = d
    · subst ha
      rcases r with r | ⟨o, r⟩
      · rw [h] at r; cases r
        exact .inr ⟨od, upd_same⟩
      · rw [h] at r; cases r
    · rcases r with r | ⟨o, r⟩
      · exact .inl (by rw [upd_ne ha]; exact r)
      · exact .inr ⟨o, by rw [upd_ne ha]; exact r⟩
  · have ha : a ≠ d := by
      rintro rfl
      rw [h] at e
      exact exk_dk (Option.some.inj e).symm
    rw [upd_ne ha]; exact e
theorem ag_open {d : Addr} {od : Obj} {us : List (Key × V)} (h : F d = some (.frz od (.dK us))) : Ag F (upd F d (.dK us)) := by
  refine ⟨fun a w nf r => ?_, fun a C e => ?_⟩
  · by_cases ha : a = d
    · subst ha
      rcases r with r | ⟨o, r⟩
      · rw [h] at r; cases r
        exact absurd rfl (nf _ _)
      · rw [h] at r; cases r
        exact .inl upd_same
    · rcases r with r | ⟨o, r⟩
      · exact .inl (by rw [upd_ne ha]; exact r)
      · exact .inr ⟨o, by rw [upd_ne ha]; exact r⟩
  · have ha : a ≠ d := by
      rintro rfl
      rw [h] at e
      exact exk_frz (Option.some.inj e).symm
    rw [upd_ne ha]; exact e
/-- the part of a heap that the slots' binders have -/
def ObOnly (G : Gx) (Z : Fr) (H : Hp) (ρ : En) (σ : St) (b : Addr) : Prop := ∃ (i : Nat) (B : Ob) (a p l : Addr), ρ[i]? = some (.ob B) ∧ σ[i]? = some (some (.ref a)) ∧ ObAt G Z.f H a p l B ∧ (b = a ∨ b = p ∨ b = l)
open Classical in
noncomputable def obPart (G : Gx) (Z : Fr) (H : Hp) (ρ : En) (σ : St) : Hp := fun b => if ObOnly G Z H ρ σ b then H b else none
theorem obPart_in {F : Fr} {H : Hp} {ρ : En} {σ : St} {b : Addr} (h : ObOnly G F H ρ σ b) : obPart G F H ρ σ b = H b := if_pos h
theorem obPart_of {F : Fr} {H : Hp} {ρ : En} {σ : St} {b : Addr} {o : HO} (h : obPart G F H ρ σ b = some o) : ObOnly G F H ρ σ b ∧ H b = some o := by
  unfold obPart at h
  split at h
  · rename_i c; exact ⟨c, h⟩
  · cases h
theorem obPart_le {F : Fr} {H : Hp} {ρ : En} {σ : St} : Same (obPart G F H ρ σ) H := fun b o h => (obPart_of h).2
theorem ObAt.tr {F F1 H H1 : Hp} {a p l : Addr} {B : Ob} (h : ObAt G F H a p l B) (ag : ∀ d v, Rep G F d v → Rep G F1 d v) (ags : ∀ ds vs, Reps G F ds vs → Reps G F1 ds vs) (ha : H1 a = H a) (hp : H1 p = H p) (hl : H1 l = H l) (fa : F1 a = none) (fp : F1 p = none) (fl : F1 l = none) : ObAt G F1 H1 a p l B := by
  obtain ⟨C, dx, vh, m, hi, rh⟩ := h.ins
  obtain ⟨vs, e2, r2⟩ := h.hp
  obtain ⟨ws, e3, r3⟩ := h.hl
  exact ⟨⟨C, dx, vh, m, ha.trans hi, ag _ _ rh⟩, ⟨vs, hp.trans e2, ags _ _ r2⟩, ⟨ws, hl.trans e3, ags _ _ r3⟩, h.np, fa, fp, fl⟩
/-- the same binders, over another F and their own part of the heap -/
theorem ObCl.other {F F1 : Fr} {H H1 : Hp} {ρ : En} {σ : St} (h : ObCl G F H ρ σ) (es : F1.s = F.s) (ag : ∀ d v, Rep G F.f d v → Rep G F1.f d v) (ags : ∀ ds vs, Reps G F.f ds vs → Reps G F1.f ds vs) (hh : ∀ b, ObOnly G F H ρ σ b → H1 b = H b ∧ F1.f b = none) : ObCl G F1 H1 ρ σ :=
  ⟨fun i B e => by
    obtain ⟨a, p, l, q, es', o⟩ := h.at_ i B e
    have oa := hh a ⟨i, B, a, p, l, e, q, o, .inl rfl⟩
    have op := hh p ⟨i, B, a, p, l, e, q, o, .inr (.inl rfl)⟩
    have ol := hh l ⟨i, B, a, p, l, e, q, o, .inr (.inr rfl)⟩
    exact ⟨a, p, l, q, by rw [es]; exact es', o.tr ag ags oa.1 op.1 ol.1 oa.2 op.2 ol.2⟩, fun i j B B' a p l a' p' l' n e e' q q' o o' => by
    obtain ⟨b, x, y, q1, _, w⟩ := h.at_ i B e
    obtain ⟨b', x', y', q2, _, w'⟩ := h.at_ j B' e'
    rw [q] at q1
    rw [q'] at q2
    cases q1
    cases q2
    have oa := hh a ⟨i, B, a, x, y, e, q, w, .inl rfl⟩
    have ob := hh a' ⟨j, B', a', x', y', e', q', w', .inl rfl⟩
    have key : ∀ {F F1 H H1 : Hp} {a p l p' l' : Addr} {B B' : Ob}, ObAt G F H a p l B → ObAt G F1 H1 a p' l' B' → H1 a = H a → p = p' ∧ l = l' := fun {F F1 H H1 a p l p' l' B B'} h1 h2 z => by
      obtain ⟨C, dx, vh, _, e, _⟩ := h1.ins
      obtain ⟨C', dx', vh', _, e', _⟩ := h2.ins
      rw [z, e] at e'
      simp only [Option.some.injEq, HO.ins.injEq, List.cons.injEq, Prod.mk.injEq, V.ref.injEq, and_true, true_and] at e'
      exact ⟨e'.2.2.2.1, e'.2.2.2.2⟩
    obtain ⟨rfl, rfl⟩ := key w o oa.1
    obtain ⟨rfl, rfl⟩ := key w' o' ob.1
    exact h.sep i j B B' _ _ _ _ _ _ n e e' q q' w w'⟩
theorem Rel.obFree {F0 : Fr} {H0 : Hp} {ρ : En} {σ : St} (R : Rel G F0 H0 ρ F σ H) {b : Addr} (h : ObOnly G F0 H0 ρ σ b) : F b = none ∧ F0.f b = none ∧ ∃ o, H0 b = some o ∧ ∀ ps, o ≠ .tbl ps := by
  obtain ⟨i, B, a, p, l, _, _, at_, hb⟩ := h
  have f0 : F0.f b = none := by
    rcases hb with rfl | rfl | rfl
    · exact at_.fa
    · exact at_.fp
    · exact at_.fl
  have h1 : ∃ o, H0 b = some o ∧ ∀ ps, o ≠ .tbl ps := by
    obtain ⟨C, dx, vh, _, e, _⟩ := at_.ins
    obtain ⟨vs, e2, _⟩ := at_.hp
    obtain ⟨ws, e3, _⟩ := at_.hl
    rcases hb with rfl | rfl | rfl
    · exact ⟨_, e, fun _ z => nomatch z⟩
    · exact ⟨_, e2, fun _ z => nomatch z⟩
    · exact ⟨_, e3, fun _ z => nomatch z⟩
  have h0 : H0 b ≠ none := by
    obtain ⟨o, e, _⟩ := h1
    rw [e]
    simp
  refine ⟨?_, f0, h1⟩
  cases q : F b with
  | none => rfl
  | some o =>
    rcases R.new b o q with z | z
    · rw [f0] at z; cases z
    · exact absurd z h0
theorem Rel.lock {F0 : Fr} {H0 : Hp} {ρ : En} {σ : St} {d : Addr} {od : Obj} {us : List (Key × V)} (R : Rel G F0 H0 ρ F σ H) (h : F d = some (.dK us)) :
    Rel G ⟨upd F d (.frz od (.dK us)), F0.s⟩ (obPart G F0 H0 ρ σ) ρ (upd F d (.frz od (.dK us))) σ (upd H d (.frz od (.dK us))) := by
  have ag := ag_lock (od := od) h
  refine ⟨Same.refl _, (fun b x z => ?_), fun a o z => ?_, fun a o z => .inl z, R.len, fun i x z => ?_, fun i x z => ?_, fun i x z => ?_, R.sep, R.obj.other rfl (fun e v r => (r.mono R.f0).tr ag) (fun e v r => (r.mono R.f0).tr ag) fun b hb => ?_⟩
  · obtain ⟨z1, z2⟩ := obPart_of z
    have hb : b ≠ d := by
      rintro rfl
      rw [(R.obFree z1).1] at h; cases h
    rw [upd_ne hb]
    exact R.h0 _ _ z2
  · by_cases ha : a = d
    · subst ha; rw [upd_same] at z ⊢; exact z
    · rw [upd_ne ha] at z ⊢; exact R.fh _ _ z
  · obtain ⟨v, h1, h2⟩ := R.val i x z
    exact ⟨v, h1, h2.tr ag⟩
  · obtain ⟨p, vs, h1, h2, h3, h4, h5⟩ := R.ol i x z
    have hp : p ≠ d := by rintro rfl; rw [h] at h3; cases h3
    exact ⟨p, vs, h1, if_neg (fun c => by obtain ⟨_, _, o, z, _⟩ := R.obFree c; rw [h2] at z; cases z), by rw [upd_ne hp]; exact h3, by rw [upd_ne hp]; exact h4, h5.tr ag⟩
  · obtain ⟨p, vs, h1, h2, h3, h4, h5⟩ := R.od i x z
    have hp : p ≠ d := by rintro rfl; rw [h] at h3; cases h3
    exact ⟨p, vs, h1, if_neg (fun c => by obtain ⟨_, _, o, z, _⟩ := R.obFree c; rw [h2] at z; cases z), by rw [upd_ne hp]; exact h3, by rw [upd_ne hp]; exact h4, h5.tr ag⟩
  · have hbd : b ≠ d := by
      rintro rfl
      rw [(R.obFree hb).1] at h; cases h
    exact ⟨obPart_in hb, (upd_ne hbd).trans (R.obFree hb).1⟩
theorem Ext.unlock {d : Addr} {od : Obj} {us : List (Key × V)} (s : Same F H) (h : F d = some (.dK us)) (E : Ext (upd F d (.frz od (.dK us))) (upd H d (.frz od (.dK us))) F' H') : Ext F H (upd F' d (.dK us)) (upd H' d (.dK us)) := by
  have hH := s _ _ h
  refine ⟨fun a o z => ?_, fun a o z => ?_, fun a o z => ?_, fun a o z => ?_⟩
  · by_cases ha : a = d
    · subst ha; rw [h] at z; rw [upd_same]; exact z
    · rw [upd_ne ha]; exact E.ff _ _ (by rw [upd_ne ha]; exact z)
  · by_cases ha : a = d
    · subst ha; rw [hH] at z; rw [upd_same]; exact z
    · rw [upd_ne ha]; exact E.hh _ _ (by rw [upd_ne ha]; exact z)
  · by_cases ha : a = d
    · subst ha; rw [upd_same] at z ⊢; exact z
    · rw [upd_ne ha] at z ⊢; exact E.fh _ _ z
  · by_cases ha : a = d
    · subst ha; rw [upd_same] at z; rw [h]; exact .inl z
    · rw [upd_ne ha] at z
      rcases E.new _ _ z with q | q
      · rw [upd_ne ha] at q; exact .inl q
      · rw [upd_ne ha] at q; exact .inr q
theorem okW.unlock {d : Addr} {od : Obj} {us : List (Key × V)} {xs : List D} {Q : VK} (s : Same F H) (h : F d = some (.dK us)) (q : okW G F H Q (.fl xs)) :
    okW G (upd F d (.frz od (.dK us))) (upd H d (.frz od (.dK us))) (fun v H' => H' d = some (.frz od (.dK us)) ∧ Q v (upd H' d (.dK us))) (.fl xs) := fun F' H' v E wr => by
  have hF' : F' d = some (.frz od (.dK us)) := E.ff _ _ upd_same
  refine ⟨E.hh _ _ upd_same, q _ _ v (E.unlock s h) ?_⟩
  obtain ⟨p, vs, e, n, nF, eH, r⟩ := wr
  have hp : p ≠ d := by rintro rfl; rw [hF'] at nF; cases nF
  rw [upd_ne hp] at n
  exact ⟨p, vs, e, n, by rw [upd_ne hp]; exact nF, by rw [upd_ne hp]; exact eH, r.tr (ag_open hF')⟩
end
section
variable {X : Cx} {Wx : WX}
theorem kd_rep {G : Gx} {F : Hp} (k : Key) : Rep G F (kD k) (kV k) := by
  cases k <;> rfl
theorem j_keys {B F1 : Hp} {d : Addr} {od : Obj} {us : List (Key × V)} {kvs : List (Key × D)} (h : B d = some (.frz od (.dK us))) (r : RepKs (gx X) F1 kvs us) : JOk (gx X) B F1 (Itk d od us) (kvs.map fun kv => kD kv.1) := fun F H s1 s2 s3 => by
  have hH := s3 _ _ h
  have at_ : ∀ {ks : List (Key × D)} {ws : List (Key × V)}, RepKs (gx X) F1 ks ws → ∀ {i : Nat} {x : D}, (ks.map fun kv => kD kv.1)[i]? = some x → ∃ k v, ws[i]? = some (k, v) ∧ x = kD k := by
    intro ks
    induction ks with
    | nil => intro ws _ i x e; simp at e
    | cons a l ih =>
      obtain ⟨k, dd⟩ := a
      intro ws rr i x e
      obtain ⟨v, w, ew, _, r2⟩ := rr
      subst ew
      cases i with
      | zero => exact ⟨k, v, rfl, by simpa using e.symm⟩
      | succ j => exact ih r2 (i := j) e
  refine ⟨fun i x e => ?_, hH, by rw [List.length_map, r.length]; exact Nat.le_refl _⟩
  obtain ⟨k, v, e1, rfl⟩ := at_ r e
  refine ⟨⟨hH, (List.getElem?_eq_some_iff.mp e1).1⟩, fun y H' q => ?_⟩
  obtain ⟨rfl, k', v', e2, rfl⟩ := q
  rw [e1] at e2
  cases e2
  exact ⟨F, Ext.refl s2, kd_rep k⟩
theorem d_compk {elt tg : Expr} {y : Str} {yp : Pos} {i : Nat} {ifs : List Expr} {scope : Scope} {own : List (Str × Nat)} {pos : Pos} {ft : En → R Bool} {fe : En → R W} {g : Pt} (hc : X.calm = true) (hN : X.N.Nodup)
    (hy : PE X (.Name y yp) (tVar i)) (ok : BlkOk X.N X.env.scope scope own) (hsl : ∀ i ∈ g.slots, i ∈ own.map (·.2))
    (hg : ∀ (s : Shared) (H : Hp) (C : Addr) (cl : List (Str × Addr)) (fp : List Addr), PG (X.blk s H scope (compEnvC scope cl C X.env) fp) tg (gPt X.K g))
    (ht : ∀ (s : Shared) (H : Hp) (C : Addr) (cl : List (Str × Addr)) (fp : List Addr), PTs (X.blk s H scope (compEnvC scope cl C X.env) fp) ifs (tTt (gx X) W0 ft))
    (he : ∀ (s : Shared) (H : Hp) (C : Addr) (cl : List (Str × Addr)) (fp : List Addr), PE (X.blk s H scope (compEnvC scope cl C X.env) fp) elt (tD (gx X) W0 fe)) :
    PE X (.ListComp elt [⟨tg, .Name y yp, ifs, 0⟩] scope pos) (tD (gx X) Wx fun ρ => compkEv ρ i fun ks => compL g ft (fun ρ1 => (fe ρ1).map W.toD) (wipeE ρ (own.map (·.2))) ks) := by
  have base := pe_lc (pos := pos) hc hN (pi_keys (tg := tg) hy) ok hg ht he (fun _ => rfl)
  refine ⟨fun pins s σ H Q I h => ?_⟩
  obtain ⟨F0, H0, F, ρ, R, o⟩ := h
  unfold compkEv at o
  dsimp only at o
  split at o
  case h_2 => exact o.elim
  rename_i kvs hi
  obtain ⟨v, es, d, us, ev, hd, rk⟩ := R.val i (.dic kvs) (getD_of hi (by intro z; cases z))
  subst ev
  cases ex : compL g ft (fun ρ1 => (fe ρ1).map W.toD) (wipeE ρ (own.map (·.2))) (kvs.map fun kv => kD kv.1) with
  | stuck => rw [ex] at o; exact o.elim
  | exc c => exact (compL_nox _ _ c ex).elim
  | ok xs =>
    rw [ex] at o
    have o4 : Out (sizeOk xs) (fun x => okW (gx X) F H Q (.fl x)) _ := Out.map (show Out ((sizeOk xs).map W.fl) _ _ from o)
    unfold sizeOk at o4
    split at o4
    case isFalse => exact o4.elim
    rename_i hsz
    have q : okW (gx X) F H Q (.fl xs) := o4
    rcases hd with hd | ⟨od, hd⟩
    · have hH := R.fh _ _ hd
      obtain ⟨od, I1⟩ := I.lock hH trivial
      have R2 := R.lock (od := od) hd
      have rd : tLc (iKeys (tVar i)) (gPt X.K g) (tTt (gx X) W0 ft) (tD (gx X) W0 fe) (own.map (·.2)) σ (upd H d (.frz od (.dK us))) (fun v H' => H' d = some (.frz od (.dK us)) ∧ Q v (upd H' d (.dK us))) :=
        ⟨_, es, d, od, rfl, .inl ⟨us, upd_same, comp_read R2 (Ext.refl R2.fh) (Same.refl _) (j_keys upd_same (rk.tr (ag_lock hd))) hsl ex hsz (q.unlock R.fh hd)⟩⟩
      refine thn (base.run pins s σ _ _ I1 rd) fun v s1 ⟨x, H1, I2, r, e2, q2⟩ => ?_
      exact ⟨x, _, I2.unlock e2 (I.nofrz hH trivial), r, q2⟩
    · have hH := R.fh _ _ hd
      exact base.run pins s σ H Q I ⟨_, es, d, od, rfl, .inl ⟨us, hH, comp_read R (Ext.refl R.fh) (Same.refl _) (j_keys hH rk) hsl ex hsz q⟩⟩
end
end G81
end
section
set_option Elab.async false
set_option linter.all false
set_option maxHeartbeats 4000000
namespace G81
open PySem PySem.Spec L2
/-- what is wanted behind a comprehension's block, its environment ce known -/
def cPost (M : Model) (A : Around) (E : Value → Shared → Prop) (Q : Value → Shared → Prop) (acc : Value) (ce : Env) (r : Result) (z : Shared) : Prop :=
  match r with
  | .ok _ => ∃ m, z.heap.Ns ce.locals m ∧ ∀ k, Heap.SameBut ce.locals z.heap k → Q acc { z with heap := k }
  | .error x => ∃ m, z.heap.Ns ce.locals m ∧ ∀ k, Heap.SameBut ce.locals z.heap k → wpAny M A (passOn "comprehension.variables-let-go" x ce : Sem Value) (fun _ _ => False) E { z with heap := k }
section
variable {M : Model} {A : Around} {E : Value → Shared → Prop} {s : Shared} {env : Env}
theorem comp_run {e : Expr} {scope : Scope} {pos : Pos} {newAcc first : Sem Value} {g : Comprehension} {gs : List Comprehension} {cl : List (Str × Addr)} {Q : Value → Shared → Prop} (c1 : clausesOf e = g :: gs) (c2 : ∀ x, foldedSetIterable g.iter env x = pure x) (c3 : closureFor scope env = pure cl) (c4 : scope.kind = .function)
    (c5 : ∀ x ∈ scope.names, x.2 = .local → scope.names.lookup x.1 = some .local)
    (w : wpAny M A first (fun x z1 => wpAny M A (pyIter x) (fun it z2 => wpAny M A newAcc (fun acc z3 => wpAny M A (newFunctionEnv scope env.globals cl [] env.qual none .none (some env)) (fun ce z4 =>
      codeAny M A (.compStart e 0 it acc { ce with scope := relabel scope env }) (cPost M A E Q acc { ce with scope := relabel scope env }) z4) E z3) E z2) E z1) E s) : wpAny M A (comprehension e scope env pos newAcc false first) Q E s := by
  have same : ∀ (y : Value) (z : Shared), E y z → E y z := fun _ _ q => q
  unfold comprehension
  rw [c3, c1]
  refine wpAny_bind (wpAny_mono w (fun x z1 w1 => ?_) same)
  refine wpAny_bind (wpAny_standAt (wpAny_bind (wpAny_of_eq (c2 x) (wpAny_bind (wpAny_holding (wpAny_mono w1 (fun it z2 w2 => ?_) same))))))
  refine wpAny_standIf (wpAny_bind (wpAny_mono w2 (fun acc z3 w3 => ?_) same))
  refine wpAny_bind (wpAny_pure (wpAny_bind (wpAny_mono w3 (fun ce z4 w4 => ?_) same)))
  dsimp only
  have kn : ∀ x ∈ (scope.names.filter fun q => (q.2 == .local || q.2 == .cell) && q.1 != (".0" : Str)).reverse, x.2 = .local → Env.kindOf { ce with scope := relabel scope env } x.1 = some .local := fun x hx hl =>
    lookup_relabel_local (c5 x (List.mem_filter.mp (List.mem_reverse.mp hx)).1 hl)
  refine wpAny_holding (wpAny_bind (wpAny_attempt (wpAny_holding (wpAny_run (codeAny_mono w4 fun r z5 w5 => ?_)))))
  cases r with
  | ok f =>
    obtain ⟨m, hn, w6⟩ := w5
    exact wpAny_bind (wpAny_holding (wpAny_comp_letGo (cenv := { ce with scope := relabel scope env }) c4 _ z5 m kn hn fun k m' _ hk => wpAny_pure (w6 k hk)))
  | error x =>
    obtain ⟨m, hn, w6⟩ := w5
    exact wpAny_bind (wpAny_holding (wpAny_comp_letGo (cenv := { ce with scope := relabel scope env }) c4 _ z5 m kn hn fun k m' _ hk => wpAny_mono (w6 k hk) (fun _ _ q => q.elim) same))
end
/-- noted in its frame, from wherever it flies -/
theorem sky_held {M : Model} {A : Around} {B : Heap} {env ce : Env} {outer : List Env} {L a : Addr} {Z : Obj → Prop} {Q : Unit → Shared → Prop} {E : Value → Shared → Prop} {s : Shared} (hZ : PXN.Steady1 Z) (hfr : A.frames = some (env :: outer)) (hf : env.frame = some L) (hc : ce.frame = some L)
    (x : Sky B (env :: outer) a Z L s.heap) (q : ∀ k, HandSPX.HeldZ B (env :: outer) a Z L k → s.heap.UpToSlots k → Q () { s with heap := k }) : wpAny M A (noteFrame (.ref a) ce) Q E s := by
  have e : (noteFrame (.ref a) ce : Sem Unit) = noteFrame (.ref a) env := by
    unfold noteFrame frameOf
    rw [hc, hf]
  rw [e]
  rcases x with ⟨hB, hn, hl, oe, vs, he, hz, hd, h1⟩ | fl | hh
  · exact PXN.look_newZ hZ hfr hl hf he hB hn hd h1 hz q
  · exact PXN.looks_onZ hZ hfr hf fl q
  · exact HandSPX.againZ hf hh.2.2.2 (q s.heap hh (Heap.UpToSlots.refl _))
/-- .. and passed on -/
theorem held_on {M : Model} {A : Around} {B : Heap} {l : List Env} {ce : Env} {L a : Addr} {Z : Obj → Prop} {w : String} {Q : Value → Shared → Prop} {E : Value → Shared → Prop} {s : Shared} (hc : ce.frame = some L) (hh : HandSPX.HeldZ B l a Z L s.heap)
    (q : ∀ k, HandSPX.HeldZ B l a Z L k → s.heap.UpToSlots k → E (.ref a) { s with heap := k }) : wpAny M A (passOn w (.ref a) ce : Sem Value) Q E s := by
  obtain ⟨oe, vs, T, oT, ts, he, hz, hd, h1, hnT, hTe, hT, hdT, h3⟩ := hh.2.2.2
  unfold passOn
  refine wpAny_bind (wpAny_field he hd h1 ?_)
  rw [if_neg (show ¬ ((Value.ref T == Value.none) = true) from by simp)]
  rw [hc]
  refine wpAny_bind (HandSPX.setFlight_onZ hh fun k hk up => ?_)
  exact wpAny_throw (q k hk up)
theorem ns_slots {h k : Heap} {C : Addr} {m : Str → Option Value} (up : h.UpToSlots k) (n : h.Ns C m) : k.Ns C m := by
  obtain ⟨o, es, ep, ho, hd, r⟩ := n
  obtain ⟨sl, e⟩ := up C o ho (fun vs z => by rw [hd] at z; cases z)
  exact ⟨_, es, ep, e, hd, r⟩
abbrev hideC (h : Heap) (C : Addr) : Heap := PySem.W.hideAll h [C]
theorem hideC_get {h : Heap} {C b : Addr} {o : Obj} (e : (hideC h C).get? b = some o) : b ≠ C ∧ h.get? b = some o := by
  refine ⟨fun z => ?_, PySem.W.of_hideAll _ e⟩
  rw [PySem.W.hideAll_none [C] (by rw [z]; exact List.mem_cons_self)] at e
  cases e
theorem frames_hide {B h : Heap} {C : Addr} : ∀ {l : List Env}, C ∉ frs l → h.FunFrames B l → (hideC h C).FunFrames (PySem.W.hideAll B [C]) l
  | [], _, _ => trivial
  | en :: l, n, x => by
    obtain ⟨hk, ⟨L, o, hf, hb, ho, hd⟩, hr⟩ := x
    have hL : L ≠ C := fun z => n (List.mem_filterMap.mpr ⟨en, List.mem_cons_self, by rw [hf, z]⟩)
    refine ⟨hk, ⟨L, o, hf, ?_, PySem.W.hideAll_get _ ho (by simpa using hL), hd⟩, frames_hide (fun z => n ?_) hr⟩
    · cases q : (PySem.W.hideAll B [C]).get? L with
      | none => rfl
      | some o' => rw [PySem.W.of_hideAll _ q] at hb; cases hb
    · obtain ⟨e, he, q⟩ := List.mem_filterMap.mp z
      exact List.mem_filterMap.mpr ⟨e, List.mem_cons_of_mem _ he, q⟩
section
variable {X : Cx} {Wx : WX}
/-- the block's dict is changed: it flies on, in the def's air -/
theorem held_but {pins : List (Addr × Obj)} {σ : St} {H : Hp} {sI z : Shared} {a C : Addr} {B k : Heap} {Z : Obj → Prop} {m : Str → Option Value} (hs : X.stack = X.env :: X.outer) (hf : X.env.frame = some X.env.locals)
    (I : Inv X pins σ H sI) (nb : ∀ b o, sI.heap.get? b = some o → b ∉ frs X.stack → B.get? b = some o) (up : sI.heap.UpToSlots z.heap) (hh : HandSPX.HeldZ B X.stack a Z X.env.locals z.heap) (fC : FpOk X pins H C) (hn : z.heap.Ns C m) (sb : Heap.SameBut C z.heap k) :
    ∃ (B2 : Heap) (sJ : Shared), Inv X pins σ H sJ ∧ (∀ b o, sJ.heap.get? b = some o → b ∉ frs X.stack → B2.get? b = some o) ∧ sJ.heap.UpToSlots k ∧ HandSPX.HeldZ B2 X.stack a Z X.env.locals k ∧ sJ.os = sI.os := by
  obtain ⟨f0, f1, f2, f3, f4, f5⟩ := fC
  obtain ⟨oC, es, ep, eC, dC, _⟩ := hn
  have ek : ∀ b, b ≠ C → k.get? b = z.heap.get? b := fun b hb => sb.2 b hb
  have hid : ∀ {h : Heap} {b : Addr} {o : Obj}, (PySem.W.hideAll h [C]).get? b = some o → b ≠ C ∧ h.get? b = some o := fun {h b o} e => by
    refine ⟨fun z => ?_, PySem.W.of_hideAll _ e⟩
    rw [PySem.W.hideAll_none [C] (by rw [z]; exact List.mem_cons_self)] at e
    cases e
  have hgt : ∀ {h : Heap} {b : Addr} {o : Obj}, b ≠ C → h.get? b = some o → (PySem.W.hideAll h [C]).get? b = some o := fun {h b o} hb e => PySem.W.hideAll_get _ e (by simpa using hb)
  have nfr : C ∉ frs X.stack := fun hm => by
    rw [hs] at hm
    obtain ⟨en, he, q⟩ := List.mem_filterMap.mp hm
    rcases List.mem_cons.mp he with rfl | he
    · rw [hf] at q; exact f1 (Option.some.inj q).symm
    · exact f2 (List.mem_filterMap.mpr ⟨en, he, q⟩)
  have nfi : ∀ (vs : Array Value) (o : Obj), z.heap.get? C = some o → o.data ≠ .fields vs := fun vs o e q => by
    rw [eC] at e; cases e
    rw [dC] at q; cases q
  obtain ⟨h1, h2, h3, oe, vs, T, oT, ts, he, hz, hd, hv, hnT, hTe, hT, hdT, hts⟩ := hh
  have ha : a ≠ C := fun q => nfi vs oe (by rw [← q]; exact he) hd
  have hTC : T ≠ C := fun q => nfi ts oT (by rw [← q]; exact hT) hdT
  refine ⟨PySem.W.hideAll B [C], { sI with heap := PySem.W.hideAll sI.heap [C] }, ?_, fun b o e hb => ?_, fun b o e nf => ?_, ⟨fun b o e => ?_, ?_, ?_, ?_⟩, rfl⟩
  · exact I.turned (t' := sI.toks) (fun b o hb e => hgt hb e) f0 f1 f3 f4 f5
  · obtain ⟨e1, e2⟩ := hid e
    exact hgt e1 (nb b o e2 hb)
  · obtain ⟨e1, e2⟩ := hid e
    obtain ⟨sl, e3⟩ := up b o e2 nf
    exact ⟨sl, by rw [ek b e1]; exact e3⟩
  · obtain ⟨e1, e2⟩ := hid e
    rw [ek b e1]
    exact h1 b o e2
  · cases q : (PySem.W.hideAll B [C]).get? a with
    | none => rfl
    | some o => rw [(hid q).2] at h2; cases h2
  · refine Heap.FunFrames.of_keeps (h := hideC z.heap C) ?_ ?_
    · exact fun b o e nf => ⟨o, by rw [ek b (hideC_get e).1]; exact (hideC_get e).2, rfl⟩
    · exact frames_hide nfr h3
  · refine ⟨oe, vs, T, oT, ts, by rw [ek a ha]; exact he, hz, hd, hv, ?_, hTe, by rw [ek T hTC]; exact hT, hdT, hts⟩
    cases q : (PySem.W.hideAll B [C]).get? T with
    | none => rfl
    | some o => rw [(hid q).2] at hnT; cases hnT
/-- [elt for target in iter if ..], an exception let out as the def wishes -/
def tLcx (wi : TI) (g : TG) (tt : WX → TT) (te : WX → TE) (Wx : WX) (vs : List Nat) : TE := fun σ H Q => wi σ H fun J H1 => ∀ D, H1 D = none → ∃ V : Nat → Nat → Hp → Prop, (∃ m, V 0 m (upd H1 D (.lst []))) ∧ ∀ i m H, V i m H →
  (J.stop i H ∧ Q (.ref D) H) ∨ (J.go i H ∧ ∃ Nx : Hp → Prop, (∀ K, Nx K → ∃ m', m' < m ∧ V (i + 1) m' K) ∧ ∀ x K, J.yld i H x K → g x (L2.wipe σ vs) K fun σ2 H2 => L2.wipe σ2 vs = L2.wipe σ vs ∧ tt (fun c d _ K => Wx c d σ K) σ2 H2 fun b H3 =>
    if b = true then te (fun c d _ K => Wx c d σ K) σ2 H3 fun y H4 => ∃ acc, H4 D = some (.lst acc) ∧ acc.length < sizeLine ∧ Nx (upd H4 D (.lst (acc ++ [y]))) else Nx H3)
/-- the block's context, its exceptions as xe says -/
abbrev blx (X : Cx) (s : Shared) (H : Hp) (scope : Scope) (ce : Env) (fp : List Addr) (xe : Value → Shared → Prop) : Cx := (X.blk s H scope ce fp).tr [] xe
theorem pe_lcx {elt tg iter : Expr} {ifs : List Expr} {scope : Scope} {own : List (Str × Nat)} {pos : Pos} {wi : TI} {g : TG} {tt : WX → TT} {te : WX → TE} (hs : X.stack = X.env :: X.outer) (hf : X.env.frame = some X.env.locals) (tk : L2N.Takes X Wx) (hc : X.calm = true) (hN : X.N.Nodup)
    (hi : PI X tg iter wi) (ok : BlkOk X.N X.env.scope scope own)
    (hg : ∀ (s : Shared) (H : Hp) (C : Addr) (cl : List (Str × Addr)) (fp : List Addr) (xe : Value → Shared → Prop), PG (blx X s H scope (compEnvC scope cl C X.env) fp xe) tg g)
    (ht : ∀ (Wb : WX) (s : Shared) (H : Hp) (C : Addr) (cl : List (Str × Addr)) (fp : List Addr) (xe : Value → Shared → Prop), Pa (blx X s H scope (compEnvC scope cl C X.env) fp xe) Wb → PTs (blx X s H scope (compEnvC scope cl C X.env) fp xe) ifs (tt Wb))
    (he : ∀ (Wb : WX) (s : Shared) (H : Hp) (C : Addr) (cl : List (Str × Addr)) (fp : List Addr) (xe : Value → Shared → Prop), Pa (blx X s H scope (compEnvC scope cl C X.env) fp xe) Wb → PE (blx X s H scope (compEnvC scope cl C X.env) fp xe) elt (te Wb))
    (hfold : ∀ x, foldedSetIterable iter X.env x = pure x) : PE X (.ListComp elt [⟨tg, iter, ifs, 0⟩] scope pos) (tLcx wi g tt te Wx (own.map (·.2))) := by
  refine ⟨fun pins s σ H Q I h => ?_⟩
  rw [eval_ListComp]
  have free : ∀ y ∈ scope.names, y.2 = .free → ∃ c, X.env.cells.lookup y.1 = some c := fun y hy e => by
    rcases ok.free y hy e with q | q
    · exact I.ok.has _ (.inl q)
    · exact I.ok.has _ (.inr q)
  refine comp_run rfl hfold (closure_ok free) ok.kind (fun y hy e => by rw [ok.uniq y hy, e]) (thn (hi.run pins s σ H _ I h) fun xv z1 hx => thn hx fun itv z2 h2 => ?_)
  obtain ⟨it, fp, tn, J, H2, e, I2, T, st2, f2, q⟩ := h2
  subst e
  refine wpAny_newObj_type (newEnv_comp ?_) (show 0 ≤ sizeLine by decide)
  generalize hD : z2.heap.objs.size = D
  have nD : H2 D = none := I2.hok.fresh (Nat.le_of_eq hD)
  obtain ⟨V, ⟨m0, w0⟩, turn⟩ := q D nD
  generalize hz3 : ({ z2 with heap := z2.heap.push { cls := .type "list", data := .seq ([] : List Value).toArray } } : Shared) = z3
  have hp3 : z3.heap = z2.heap.push { cls := .type "list", data := .seq ([] : List Value).toArray } := by rw [← hz3]
  have I3 : Inv X pins σ (upd H2 D (.lst [])) z3 := by
    rw [← hz3]
    refine I2.laid (t' := z2.toks) (fun b o e => Heap.get?_push_of_some _ e) (Nat.le_of_eq hD) ⟨Nat.zero_le _, [], 0, .nil, ?_⟩
    rw [← hD]
    exact Heap.get?_push_size _ rfl
  have f3 : ∀ b ∈ fp, FpOk X pins (upd H2 D (.lst [])) b ∧ b < z3.heap.objs.size := fun b hb => by
    obtain ⟨o, e, _⟩ := T.obj _ _ st2 b hb
    have lt := Heap.lt_size e
    refine ⟨⟨?_, (f2 b hb).2⟩, by rw [hp3, Heap.size_push]; exact Nat.lt_succ_of_lt lt⟩
    rw [upd_ne (by rw [← hD]; exact Nat.ne_of_lt lt)]
    exact (f2 b hb).1
  have st3 : tn 0 z3.heap := T.keep _ _ _ st2 fun b _ o e => by
    rw [hp3]
    exact Heap.get?_push_of_some _ e
  have I4 := block_start I3 ok hN f3
  have Ie : Inv X [] σ (upd H2 D (.lst [])) z3 := I3.pins_of fun p hp => absurd hp (by simp)
  generalize hcl : cellsFrom (z3.heap.objs.size + 1) scope.names (cloFrom X.env.cells scope.names []) = clo at I4
  show codeAny _ _ (.compStart (.ListComp elt [⟨tg, iter, ifs, 0⟩] scope pos) 0 (.ref it) (.ref D) (compEnvC scope clo z3.heap.objs.size X.env)) (cPost (model X.prog X.w) X.A X.xe (EP X pins σ Q) (.ref D) (compEnvC scope clo z3.heap.objs.size X.env))
    { z3 with heap := pushCells (z3.heap.push { cls := .type "dict", data := .dict #[] }) scope.names }
  have pg := fun xe => hg z3 (upd H2 D (.lst [])) z3.heap.objs.size clo fp xe
  have pt := fun Wb xe => ht Wb z3 (upd H2 D (.lst [])) z3.heap.objs.size clo fp xe
  have pe := fun Wb xe => he Wb z3 (upd H2 D (.lst [])) z3.heap.objs.size clo fp xe
  have nfp : ∀ b ∈ fp, (upd H2 D (.lst [])) b = none := fun b hb => (f3 b hb).1.1
  generalize hce : compEnvC scope clo z3.heap.objs.size X.env = ce at I4 pg pt pe ⊢
  have cL : ce.locals = z3.heap.objs.size := by subst hce; rfl
  have cF : ce.frame = some X.env.locals := by subst hce; exact hf
  generalize hH3 : upd H2 D (.lst []) = H3 at I3 I4 Ie pg pt pe w0 nfp f3
  generalize hz4 : ({ z3 with heap := pushCells (z3.heap.push { cls := .type "dict", data := .dict #[] }) scope.names } : Shared) = z4 at I4 ⊢
  have st4 : tn 0 z4.heap := T.keep _ _ _ st3 fun b _ o e => by
    rw [← hz4]
    exact pushCells_keeps _ _ _ _ (Heap.get?_push_of_some _ e)
  generalize hxe : notedBy (model X.prog X.w) X.A ce (fun e z => cPost (model X.prog X.w) X.A X.xe (EP X pins σ Q) (.ref D) ce (.error e) z) = xe
  have I5 : Inv (blx X z3 H3 scope ce fp xe) [] (L2.wipe σ (own.map (·.2))) H3 z4 := I4.toTry xe
  -- an exception of a call within
  have pa : Pa (blx X z3 H3 scope ce fp xe) (fun c d _ K => Wx c d σ K) := by
    intro σ' pins' H' z e z' I' c
    show xe e z'
    have I7 : Inv X pins σ H' z := I3.call' (ch := fp) I'.os I'.base I'.hok I'.bare fun b hb => ⟨(f3 b hb).1.2.2.2.1, (f3 b hb).1.2.1, (f3 b hb).1.2.2.2.2.1, (f3 b hb).1.2.2.2.2.2⟩
    have nC : H' z3.heap.objs.size = none := by rw [← cL]; exact I'.free
    obtain ⟨m, hn, _⟩ := I'.loc
    have hn : z.heap.Ns z3.heap.objs.size m := by rw [← cL]; exact hn
    have hfr : X.A.frames = some (X.env :: X.outer) := by rw [I.ok.frames, hs]
    have fp0 := Ie.fpOk (H' := H') (Nat.le_refl _) nC
    have nfr : z3.heap.objs.size ∉ frs X.stack := fun hm => by
      rcases List.mem_cons.mp (I3.stkSub _ hm) with q | q
      · exact fp0.2.1 q
      · exact fp0.2.2.1 q
    obtain ⟨a, B, K, cls, d, ea, fl, hok, ub, na, os, ag, hE⟩ := c
    obtain ⟨oC, es, ep, eC, rC⟩ := hn
    have nK : K z3.heap.objs.size = none := ub.free _ _ eC nC
    have hn' : z'.heap.Ns z3.heap.objs.size m := ⟨oC, es, ep, fl.1 _ _ (ub.keep _ _ eC nC nfr), rC⟩
    have x : L2N.XE X (fun c d σ1 K => Wx c d σ K ∧ K z3.heap.objs.size = none ∧ σ1 = σ) e z' := L2N.XE.of_call I7 (E := fun c d K => Wx c d σ K ∧ K z3.heap.objs.size = none) (fun _ _ _ h => ⟨h.1, h.2, rfl⟩) ⟨a, B, K, cls, d, ea, fl, hok, ub, na, os, ag, hE, nK⟩
    clear fl hok ub na os ag hE nK ea
    obtain ⟨a, B, sI, pins1, σ1, K, cls, d, rfl, I1, nb, up, sky, na, os, ag, w1, w2, w3⟩ := x
    subst w3
    have I1 : Inv X [] σ1 K sI := I1.pins_of fun p hp => absurd hp (by simp)
    rw [← hxe]
    rw [hs] at sky
    refine sky_held L2N.Zn.steady hfr hf cF sky fun k hk upk => ?_
    have nk := ns_slots upk hn'
    refine ⟨m, by rw [cL]; exact nk, fun k2 sb => ?_⟩
    rw [cL] at sb
    obtain ⟨B2, sJ, J1, J2, J3, J4, J5⟩ := held_but (z := { z' with heap := k }) hs hf I1 nb (up.trans upk) (by rw [hs]; exact hk) (Ie.fpOk (Nat.le_refl _) w2) nk sb
    refine held_on cF J4 fun k3 hk3 up3 => tk _ _ ⟨a, B2, sJ, [], σ1, K, cls, d, rfl, J1, J2, J3.trans up3, .inr (.inr hk3), na, os.trans J5.symm, ag, w1⟩
  have pg := pg xe
  have pt := pt _ xe pa
  have pe := pe _ xe pa
  have stat : ∀ {σ' : L2.St} {H' : Hp} {z : Shared}, Inv (blx X z3 H3 scope ce fp xe) [] σ' H' z → (∀ b ∈ fp, H' b = none) → ∀ b ∈ fp, FpOk (blx X z3 H3 scope ce fp xe) [] H' b := fun {σ' H' z} J hn b hb =>
    ⟨hn b hb, (J.ok.exf b hb).1, J.ok.exfs b hb, .inl hb, fun x c e => (J.ok.exf b hb).2 x c e, fun p hp => absurd (show p ∈ ([] : List (Addr × Obj)) ++ [] from hp) (by simp)⟩
  have loop : codeAny (model X.prog X.w) X.A (.compLoop (.ListComp elt [⟨tg, iter, ifs, 0⟩] scope pos) 0 (.ref it) (.ref D) ce) (cPost (model X.prog X.w) X.A X.xe (EP X pins σ Q) (.ref D) ce) z4 := by
    refine compLoop_any (fun n z => ∃ i K, Inv (blx X z3 H3 scope ce fp xe) [] (L2.wipe σ (own.map (·.2))) K z ∧ tn i z.heap ∧ (∀ b ∈ fp, K b = none) ∧ V i n K) ?_ m0 ⟨0, H3, I5, st4, nfp, w0⟩
    rw [hxe]
    rintro n z5 ⟨i, H5, I5, st5, n5, w5⟩
    rcases turn i n H5 w5 with ⟨stop, qq⟩ | ⟨go, Nx, hNx, step⟩
    · have td := T.done (blx X z3 H3 scope ce fp xe) rfl rfl rfl hc i [] z5 _ H5 (fun _ _ => False) I5 (stat I5 n5) st5 stop
      refine thnF td fun r z6 ⟨hr, I6⟩ => ?_
      subst hr
      have I7 : Inv X pins σ H5 z6 := I3.call' (ch := fp) I6.os I6.base I6.hok I6.bare fun b hb => ⟨(f3 b hb).1.2.2.2.1, (f3 b hb).1.2.1, (f3 b hb).1.2.2.2.2.1, (f3 b hb).1.2.2.2.2.2⟩
      have nC : H5 z3.heap.objs.size = none := by rw [← cL]; exact I6.free
      obtain ⟨m, hn, _⟩ := I6.loc
      refine ⟨m, hn, fun k sb => ?_⟩
      rw [cL] at sb
      obtain ⟨f0, f1, f2, f3, f4, f5⟩ := I3.fpOk (H' := H5) (Nat.le_refl _) nC
      exact ⟨.ref D, H5, I7.turned (t' := z6.toks) (fun b o hb e => (sb.2 b hb).trans e) f0 f1 f3 f4 f5, rfl, qq⟩
    · have ti := T.item (blx X z3 H3 scope ce fp xe) rfl rfl rfl hc i [] z5 _ H5 (fun _ _ => False) I5 (stat I5 n5) st5 go
      refine thnF ti fun r z6 ⟨u, hr, h6⟩ => ?_
      subst hr
      refine thnF h6 fun _ z7 ⟨x, H7, I7, r7, y7, st7, n7⟩ => ?_
      have P7 := I7.pinned (stat I7 n7) (T.obj _ _ st7)
      refine thn (pg.run _ z7 _ H7 x u _ P7 r7 (step x H7 y7)) fun _ z8 ⟨σ8, H8, I8, hw8, q8⟩ => ?_
      refine thn (pt.run _ z8 σ8 H8 _ I8 q8) fun b z9 ⟨H9, I9, q9⟩ => ?_
      have len8 : (L2.wipe σ (own.map (·.2))).length = σ8.length := by rw [← hw8, wipe_length]
      have fin : ∀ {z : Shared} {K : Hp}, Inv (blx X z3 H3 scope ce fp xe) ([] ++ pinsAt fp z7.heap) σ8 K z → Nx K → ∃ m, m < n ∧ ∃ i K, Inv (blx X z3 H3 scope ce fp xe) [] (L2.wipe σ (own.map (·.2))) K z ∧ tn i z.heap ∧ (∀ b ∈ fp, K b = none) ∧ V i m K := fun {z K} J nx => by
        obtain ⟨m', hm, w'⟩ := hNx K nx
        have pin : ∀ b ∈ fp, ∀ o, z7.heap.get? b = some o → z.heap.get? b = some o ∧ K b = none := fun b hb o e =>
          let r := J.pin (b, o) (List.mem_append_right _ (List.mem_append_right _ (mem_pinsAt hb e)))
          ⟨r.1, r.2.1⟩
        refine ⟨m', hm, i + 1, K, (J.unpinned (pins := [])).weak len8 (fun j v e => ?_), T.keep _ _ _ st7 fun b hb o e => (pin b hb o e).1, fun b hb => ?_, w'⟩
        · rw [← hw8] at e
          exact (wipe_some e).1
        · obtain ⟨o, e, _⟩ := T.obj _ _ st7 b hb
          exact (pin b hb o e).2
      cases b with
      | false =>
        simp only [Bool.false_eq_true, if_false] at q9 ⊢
        exact fin I9 q9
      | true =>
        simp only [if_true] at q9 ⊢
        refine thn (pe.run _ z9 σ8 H9 _ I9 q9) fun v z10 ⟨yv, H10, I10, r10, acc, hD10, hz10, nx⟩ => ?_
        exact app_ok (X := blx X z3 H3 scope ce fp xe) I10 hD10 hz10 r10 fun z11 I11 => fin I11 nx
  exact codeAny_compStart_list loop (T.self X.A 0 _ _ _ st4 loop)
end
end G81
end
section
set_option Elab.async false
set_option linter.all false
set_option maxHeartbeats 4000000
namespace G81
open PySem PySem.Spec L2
section
variable {X : Cx} {Wx : WX}
theorem Thr.turn {G : Gx} {c : Str} {F H F2 H2 : Hp} {σ σ1 : L2.St} (h : Thr G Wx c F σ H) (E : Ext F H F2 H2) : Thr G (fun c d _ K => Wx c d σ K) c F2 σ1 H2 := fun F' H' a e E' => h F' H' a e (E.trans E')
theorem d_compx {elt tg iter : Expr} {ifs : List Expr} {scope : Scope} {own : List (Str × Nat)} {pos : Pos} {fi : En → R (List D × Bool)} {ft : En → R Bool} {fe : En → R W} {g : Pt} (hst : X.stack = X.env :: X.outer) (hf : X.env.frame = some X.env.locals) (tk : L2N.Takes X Wx) (hc : X.calm = true) (hN : X.N.Nodup)
    (hi : PI X tg iter (iD (gx X) Wx fi)) (ok : BlkOk X.N X.env.scope scope own) (hsl : ∀ i ∈ g.slots, i ∈ own.map (·.2))
    (hg : ∀ (s : Shared) (H : Hp) (C : Addr) (cl : List (Str × Addr)) (fp : List Addr) (xe : Value → Shared → Prop), PG (blx X s H scope (compEnvC scope cl C X.env) fp xe) tg (gPt X.K g))
    (ht : ∀ (Wb : WX) (s : Shared) (H : Hp) (C : Addr) (cl : List (Str × Addr)) (fp : List Addr) (xe : Value → Shared → Prop), Pa (blx X s H scope (compEnvC scope cl C X.env) fp xe) Wb → PTs (blx X s H scope (compEnvC scope cl C X.env) fp xe) ifs (tTt (gx X) Wb ft))
    (he : ∀ (Wb : WX) (s : Shared) (H : Hp) (C : Addr) (cl : List (Str × Addr)) (fp : List Addr) (xe : Value → Shared → Prop), Pa (blx X s H scope (compEnvC scope cl C X.env) fp xe) Wb → PE (blx X s H scope (compEnvC scope cl C X.env) fp xe) elt (tD (gx X) Wb fe))
    (hs : ∀ x, foldedSetIterable iter X.env x = pure x) :
    PE X (.ListComp elt [⟨tg, iter, ifs, 0⟩] scope pos) (tD (gx X) Wx fun ρ => (fi ρ).bind fun dsb => if dsb.1.length ≤ SIZE then (compX g ft (fun ρ1 => (fe ρ1).map W.toD) (wipeE ρ (own.map (·.2))) dsb.1).map .fl else .stuck) := by
  refine PE_imp (pe_lcx (tt := fun Wb => tTt (gx X) Wb ft) (te := fun Wb => tD (gx X) Wb fe) hst hf tk hc hN hi ok hg ht he hs) fun σ H Q h => ?_
  obtain ⟨F0, H0, F, ρ, R, o⟩ := h
  refine ⟨F0, H0, F, ρ, R, o.bind.imp (fun dsb _ o2 => ?_) (fun _ h => h)⟩
  intro F1 H1 J B E1 sB _ jok
  obtain ⟨ds, lb⟩ := dsb
  dsimp only at o2
  split at o2
  case isFalse => exact o2.elim
  rename_i hsz
  have o3 : Out (compX g ft (fun ρ1 => (fe ρ1).map W.toD) (wipeE ρ (own.map (·.2))) ds) (fun xs => okW (gx X) F H Q (.fl xs)) (fun c => Thr (gx X) Wx c F σ H) := Out.map o2
  intro D nD
  have nDH : H D = none := E1.hh.free nD
  refine ⟨fun i m Hc => ∃ F' acc done, Ext F H F' Hc ∧ Same F1 F' ∧ Same B Hc ∧ Hc D = some (.lst acc) ∧ F' D = none ∧ Reps (gx X) F' done acc ∧ done.length ≤ i ∧ i + m = ds.length ∧
    Out (compX g ft (fun ρ1 => (fe ρ1).map W.toD) (wipeE ρ (own.map (·.2))) (ds.drop i)) (fun xs => okW (gx X) F H Q (.fl (done ++ xs))) (fun c => Thr (gx X) Wx c F σ H),
    ⟨ds.length, F1, [], [], ext_app E1 nDH (E1.fh.free nD), Same.refl _, sB.trans (same_upd nD), upd_same, E1.fh.free nD, rfl, Nat.le_refl _, by omega, o3⟩, fun i m Hc hw => ?_⟩
  obtain ⟨F', acc, done, E, s1, s2, hD, fD, rd, dl, em, er⟩ := hw
  have jk := jok F' Hc s1 E.fh s2
  by_cases hlt : i < ds.length
  · have edrop : ds.drop i = ds[i] :: ds.drop (i + 1) := List.drop_eq_getElem_cons hlt
    obtain ⟨jg, jy⟩ := jk.1 i ds[i] (List.getElem?_eq_getElem hlt)
    refine .inr ⟨jg, fun H' => ∃ m', m' < m ∧ ∃ F' acc done, Ext F H F' H' ∧ Same F1 F' ∧ Same B H' ∧ H' D = some (.lst acc) ∧ F' D = none ∧ Reps (gx X) F' done acc ∧ done.length ≤ i + 1 ∧ (i + 1) + m' = ds.length ∧
      Out (compX g ft (fun ρ1 => (fe ρ1).map W.toD) (wipeE ρ (own.map (·.2))) (ds.drop (i + 1))) (fun xs => okW (gx X) F H Q (.fl (done ++ xs))) (fun c => Thr (gx X) Wx c F σ H), fun H' z => z, fun x Hy y => ?_⟩
    obtain ⟨F2, E2, rx⟩ := jy x Hy y
    rw [edrop] at er
    unfold compX at er
    split at er
    · exact er.elim
    · rename_i ρ1 ea
      have R2 := (R.wipe (own.map (·.2))).ext (E.trans E2)
      have EE := E.trans E2
      refine pt_ok (G := gx X) ea rx R2 fun σ1 R3 hwp => ⟨?_, F0, H0, F2, ρ1, R3, (Out.bind er).imp (fun b _ o4 => ?_) fun _ h => h.turn EE⟩
      · rw [hwp _ hsl, wipe_twice]
      · intro F3 H3 E3
        have E13 := EE.trans E3
        have hD3 : H3 D = some (.lst acc) := E3.hh _ _ (E2.hh _ _ hD)
        have fD3 : F3 D = none := (E2.trans E3).keepFree hD fD
        have s13 : Same F1 F3 := s1.trans (E2.ff.trans E3.ff)
        have s23 : Same B H3 := s2.trans (E2.hh.trans E3.hh)
        cases b with
        | false =>
          have o4 : Out (compX g ft (fun ρ1 => (fe ρ1).map W.toD) (wipeE ρ (own.map (·.2))) (ds.drop (i + 1))) _ _ := o4
          exact ⟨m - 1, by omega, F3, acc, done, E13, s13, s23, hD3, fD3, rd.mono (E2.ff.trans E3.ff), by omega, by omega, o4⟩
        | true =>
          have o5 : Out (fe ρ1) (fun w => Out ((compX g ft (fun ρ1 => (fe ρ1).map W.toD) (wipeE ρ (own.map (·.2))) (ds.drop (i + 1))).map fun xs => w.toD :: xs) (fun xs => okW (gx X) F H Q (.fl (done ++ xs))) (fun c => Thr (gx X) Wx c F σ H)) (fun c => Thr (gx X) Wx c F σ H) :=
            Out.map (Out.bind o4)
          show tD (gx X) _ fe σ1 H3 _
          refine ⟨F0, H0, F3, ρ1, R3.ext E3, o5.imp (fun w _ o6 => ?_) fun _ h => h.turn E13⟩
          intro F4 H4 yv E4 wr
          obtain ⟨F5, E5, _, ry⟩ := E4.freeze wr
          have hD4 : H4 D = some (.lst acc) := E4.hh _ _ hD3
          have fD5 : F5 D = none := E5.keepFree hD3 fD3
          have hlen : acc.length < sizeLine := by
            rw [rd.length]
            have h2 : (SIZE : Nat) < sizeLine := by decide
            omega
          refine ⟨acc, hD4, hlen, m - 1, by omega, F5, acc ++ [yv], done ++ [w.toD], ext_app (E13.trans E5) nDH fD5, s13.trans E5.ff, ?_, upd_same, fD5, ?_, by rw [List.length_append]; simp only [List.length_cons, List.length_nil]; omega, by omega, (Out.map o6).imp (fun xs _ q => ?_) fun _ h => h⟩
          · intro b' x' e'
            have hb : b' ≠ D := by
              rintro rfl
              have := sB _ _ e'
              rw [nD] at this
              cases this
            rw [upd_ne hb]
            exact (s23.trans E5.hh) _ _ e'
          · exact (rd.mono ((E2.ff.trans E3.ff).trans E5.ff)).append (.one ry)
          · rw [List.append_assoc]
            exact q
  · have ei : i = ds.length := by omega
    subst ei
    have e0 : ds.drop ds.length = [] := List.drop_length
    rw [e0] at er
    have q : okW (gx X) F H Q (.fl (done ++ [])) := er
    rw [List.append_nil] at q
    exact .inl ⟨jk.2, q F' Hc (.ref D) E ⟨D, acc, rfl, nDH, fD, hD, rd⟩⟩
end
end G81
end
section
set_option Elab.async false
set_option linter.all false
set_option maxHeartbeats 4000000
namespace G81
open PySem PySem.Spec PyProof.Rows L2
def rItemsR : V → Hp → VK → Prop := fun x H Q => ∃ (d : Addr) (kvs : List (Key × V)), x = .ref d ∧ Rd H d (.dK kvs) ∧
  ∀ (H' : Hp) (p : Addr) (ts : List Addr), (∀ b o, H b = some o → H' b = some o) → H p = none → (∀ t ∈ ts, H t = none) → p ∉ ts → H' p = some (.lst (ts.map V.ref)) → Paired (fun (t : Addr) (q : Key × V) => H' t = some (.tup [kV q.1, q.2])) ts kvs → Q (.ref p) H'
def tItemsR (te : TE) : TE := fun σ H Q => te σ H fun x H1 => rItemsR x H1 Q
section
variable {X : Cx} {e : Expr} {te : TE} {p apos cpos pos : Pos}
theorem pe_itemsR (hc : X.calm = true) (he : PE X e te) (hg : Gl X "list") (hm : X.mg "list" = none) (hv : bootBuiltins "list" = some (.type "list")) (hbase : attributeBase e "items" X.env (eval e X.env) = eval e X.env) (hline : (apos.endLine == cpos.line) = true)
    (hs : starEach [.Call (.Attribute e "items" apos) [] [] cpos] X.env = (false, eval (.Call (.Attribute e "items" apos) [] [] cpos) X.env) :: starEach [] X.env := by rfl) :
    PE X (.Call (.Name "list" p) [.Call (.Attribute e "items" apos) [] [] cpos] [] pos) (tItemsR te) := by
  refine ⟨fun pins s σ H Q I hq => ?_⟩
  refine wpAny_Call_Name_kw (ld_blt I hg hm hv ?_)
  refine PyProof.Rows.callWith_type1 ?_ hs rfl
  rw [hs]
  show wpAny _ _ (spliced ((false, eval (.Call (.Attribute e "items" apos) [] [] cpos) X.env) :: backTo pos (starEach [] X.env))) _ _ s
  refine Calls.spliced_cons ?_
  refine wpAny_Call_method (T := "dict") (id := "dict.items") hbase rfl hline F.plainAttrs_dict F.slot_dict_items F.type_dict_items (thn (he.run pins s σ H _ I hq) fun u s1 ⟨x, H1, I1, rx, d, kvs, ex, hd, q⟩ => ?_)
  subst ex
  obtain rfl : u = Value.ref d := rx
  have hok : ObjOk X.prog X.w H1 s1.heap d (.dK kvs) := by
    rcases hd with hd | ⟨o, hd⟩
    · exact I1.hok d _ hd
    · exact (I1.hok d _ hd).2
  obtain ⟨hz, hs0, vs, kv, hdo⟩ := hok
  obtain ⟨ep, hat⟩ := hdo.dictAt
  have lk : kvs.length = vs.length := Paired.length kv
  have I2 : Inv X pins σ H1 { s1 with heap := s1.heap.push { cls := .type "dict_items", data := .fields #[.ref d] } } := I1.kept (t' := s1.toks) fun b ob q => Heap.get?_push_of_some _ q
  refine ⟨hdo.typeIs, hdo.mapOf.noDict, ?_⟩
  show wpAny _ _ (callWith cpos (.builtin "dict.items") [.ref d] [] []) _ X.xe s1
  refine method_meetsIn F.slot_dict_items F.entry_dict_items rfl (PySem.evalArgs_none ⟨rfl, hdo.typeIs, F.args_dict_items_1 _, _, meets_dict_items (mixKind X.prog X.w) d hs0, ⟨vs, hdo⟩, ?_⟩)
  refine Calls.spliced_nil ?_
  refine PySem.W.kdx_call (knd := mixKind X.prog X.w) (kvs := vs) (ep := ep) (I1.ok.hd hc) ⟨_, Heap.get?_push_size _ rfl, rfl, rfl⟩ (hat.push _) (by omega) fun h' tk acc c as hk hS hl hG hacc => ?_
  obtain ⟨H', k1, k2, k3, k4, k5, k6, J⟩ := LiI.items_laid (tk := tk) I2 hz kv hk hS hl hG hacc
  exact ⟨.ref _, H', J, rfl, q H' _ as k1 k2 k3 k4 k5 k6⟩
end
theorem rep_key {G : Gx} {F : Hp} (k : Key) : Rep G F (kD k) (kV k) := by
  cases k <;> rfl
theorem reps_items {G : Gx} {F F' H' : Hp} (s : Same F F') : ∀ {kvs : List (Key × D)} {us : List (Key × V)} {ts : List Addr}, RepKs G F kvs us → Paired (fun (t : Addr) (q : Key × V) => H' t = some (.tup [kV q.1, q.2])) ts us → (∀ t ∈ ts, F' t = H' t) → Reps G F' (kvs.map fun kv => D.tup [kD kv.1, kv.2]) (ts.map V.ref)
  | [], us, ts, r, p, _ => by
    have r : us = [] := r
    subst r
    cases p
    rfl
  | (k, d) :: r, us, ts, h, p, i => by
    obtain ⟨v, w, rfl, h1, h2⟩ := h
    cases p with
    | cons e p =>
      rename_i t ts
      refine ⟨.ref t, ts.map V.ref, rfl, ⟨t, [kV k, v], rfl, .inl ((i t List.mem_cons_self).trans e), kV k, [v], rfl, rep_key k, v, [], rfl, h1.mono s, rfl⟩, reps_items s h2 p fun t ht => i t (List.mem_cons_of_mem _ ht)⟩
section
variable {X : Cx} {Wx : WX} {a : Expr} {p apos cpos pos : Pos} {fa : En → G81.R D} {la : En → Bool}
theorem d_items (hc : X.calm = true) (hg : Gl X "list") (hm : X.mg "list" = none) (ha : PE X a (tBo (gx X) Wx fa la)) (hb : nsup a = true) (hl : (apos.endLine == cpos.line) = true) :
    PE X (.Call (.Name "list" p) [.Call (.Attribute a "items" apos) [] [] cpos] [] pos) (tD (gx X) Wx fun ρ => (fa ρ).bind fun u => listitemsEv [u]) :=
  PE_imp (pe_itemsR hc ha hg hm (by decide +kernel) (base_ok hb) hl) fun σ H Q ⟨F0, H0, F, ρ, R, o⟩ => by
    classical
    refine ⟨F0, H0, F, ρ, R, o.bind.imp (fun u _ p2 => ?_) (fun _ h => h)⟩
    intro F1 H1 x E1 bx _
    have p6 := Out.nox (thr' := fun _ => False) p2 (nox_bi .listitems [u])
    have p6 : Out (listitemsEv [u]) (okW (gx X) F H Q) (fun _ => False) := p6
    cases u with
    | dic kvs =>
      have okk : okW (gx X) F H Q (W.fl (kvs.map fun kv => D.tup [kD kv.1, kv.2])) := p6
      obtain ⟨d, us, rfl, hd, rk⟩ := bx
      refine ⟨d, us, rfl, hd, fun H' q ts h1 h2 h3 h4 h5 h6 => ?_⟩
      have nts : ∀ b o, F1 b = some o → b ∉ ts := fun b o e z => by
        have := E1.fh _ _ e
        rw [h3 b z] at this
        cases this
      have sF : Same F1 (fun b => if b ∈ ts then H' b else F1 b) := fun b o e => by
        show (if b ∈ ts then H' b else F1 b) = _
        rw [if_neg (nts b o e)]
        exact e
      have E2 : Ext F1 H1 (fun b => if b ∈ ts then H' b else F1 b) H' := ⟨sF, h1, fun b o e => by
        have e : (if b ∈ ts then H' b else F1 b) = some o := e
        split at e
        · exact e
        · exact h1 _ _ (E1.fh _ _ e), fun b o e => by
        have e : (if b ∈ ts then H' b else F1 b) = some o := e
        split at e
        · rename_i hb
          exact .inr (h3 b hb)
        · exact .inl e⟩
      refine okk _ H' (.ref q) (E1.trans E2) ⟨q, ts.map V.ref, rfl, E1.hh.free h2, ?_, h5, reps_items sF rk h6 fun t ht => if_pos ht⟩
      show (if q ∈ ts then H' q else F1 q) = none
      rw [if_neg h4]
      exact E1.fh.free h2
    | _ => exact (show False from p6).elim
end
end G81
end
section
set_option Elab.async false
set_option linter.all false
set_option maxHeartbeats 4000000
namespace G81
open PySem PySem.Spec L2
section
variable {X : Cx} {Wx : WX}
theorem d_compf {elt tg : Expr} {y : Str} {yp ap : Pos} {i : Nat} {ifs : List Expr} {scope : Scope} {own : List (Str × Nat)} {pos : Pos} {ft : En → R Bool} {fe : En → R W} {g : Pt} (hc : X.calm = true) (hN : X.N.Nodup) (b : BndOk X.K X.mg)
    (hy : PE X (.Name y yp) (tVar i)) (ok : BlkOk X.N X.env.scope scope own) (hsl : ∀ i ∈ g.slots, i ∈ own.map (·.2))
    (hg : ∀ (s : Shared) (H : Hp) (C : Addr) (cl : List (Str × Addr)) (fp : List Addr), PG (X.blk s H scope (compEnvC scope cl C X.env) fp) tg (gPt X.K g))
    (ht : ∀ (s : Shared) (H : Hp) (C : Addr) (cl : List (Str × Addr)) (fp : List Addr), PTs (X.blk s H scope (compEnvC scope cl C X.env) fp) ifs (tTt (gx X) W0 ft))
    (he : ∀ (s : Shared) (H : Hp) (C : Addr) (cl : List (Str × Addr)) (fp : List Addr), PE (X.blk s H scope (compEnvC scope cl C X.env) fp) elt (tD (gx X) W0 fe)) :
    PE X (.ListComp elt [⟨tg, .Attribute (.Name y yp) (fldN 0) ap, ifs, 0⟩] scope pos) (tD (gx X) Wx fun ρ => compfEv ρ i fun ks => compL g ft (fun ρ1 => (fe ρ1).map W.toD) (wipeE ρ (own.map (·.2))) ks) := by
  have base := pe_lc (pos := pos) hc hN (pi_keys (tg := tg) (pe_fld (pos := ap) hy (f := fldN 0) rfl)) ok hg ht he (fun _ => rfl)
  refine ⟨fun pins s σ H Q I h => ?_⟩
  obtain ⟨F0, H0, F, ρ, R, o⟩ := h
  unfold compfEv at o
  dsimp only at o
  split at o
  case h_2 => exact o.elim
  rename_i B hi
  obtain ⟨a, p, l, e1, _, at_⟩ := R.obj.at_ i B (getD_of hi (by intro z; cases z))
  obtain ⟨C, dx, vh, m, hin, rh⟩ := at_.ins
  obtain ⟨C', m', c, n⟩ := b.ex
  have m : X.mg "Binder" = some (.ref C) := m
  rw [m] at m'
  cases m'
  have lk := (fld_look vh p l).1.1
  have hin := R.h0 _ _ hin
  obtain ⟨d, us, ev, hd, rk⟩ := Rep.mono R.f0 (.dic B.held) rh
  subst ev
  generalize B.held = kvs at o rk
  cases ex : compL g ft (fun ρ1 => (fe ρ1).map W.toD) (wipeE ρ (own.map (·.2))) (kvs.map fun kv => kD kv.1) with
  | stuck => rw [ex] at o; exact o.elim
  | exc c => exact (compL_nox _ _ c ex).elim
  | ok xs =>
    rw [ex] at o
    have o4 : Out (sizeOk xs) (fun x => okW (gx X) F H Q (.fl x)) _ := Out.map (show Out ((sizeOk xs).map W.fl) _ _ from o)
    unfold sizeOk at o4
    split at o4
    case isFalse => exact o4.elim
    rename_i hsz
    have q : okW (gx X) F H Q (.fl xs) := o4
    rcases hd with hd | ⟨od, hd⟩
    · have hH := R.fh _ _ hd
      have nad : a ≠ d := by
        rintro rfl
        rw [hin] at hH
        cases hH
      obtain ⟨od, I1⟩ := I.lock hH trivial
      have R2 := R.lock (od := od) hd
      have rd : tLc (iKeys (tFld X.K (tVar i) (fldN 0))) (gPt X.K g) (tTt (gx X) W0 ft) (tD (gx X) W0 fe) (own.map (·.2)) σ (upd H d (.frz od (.dK us))) (fun v H' => H' d = some (.frz od (.dK us)) ∧ Q v (upd H' d (.dK us))) :=
        ⟨_, e1, a, C, dx, _, _, rfl, (upd_ne nad).trans hin, c, n 0, lk, d, od, rfl, .inl ⟨us, upd_same, comp_read R2 (Ext.refl R2.fh) (Same.refl _) (j_keys upd_same (rk.tr (ag_lock hd))) hsl ex hsz (q.unlock R.fh hd)⟩⟩
      refine thn (base.run pins s σ _ _ I1 rd) fun v s1 ⟨x, H1, I2, r, e2, q2⟩ => ?_
      exact ⟨x, _, I2.unlock e2 (I.nofrz hH trivial), r, q2⟩
    · have hH := R.fh _ _ hd
      exact base.run pins s σ H Q I ⟨_, e1, a, C, dx, _, _, rfl, hin, c, n 0, lk, d, od, rfl, .inl ⟨us, hH, comp_read R (Ext.refl R.fh) (Same.refl _) (j_keys hH rk) hsl ex hsz q⟩⟩
end
end G81
end
section
set_option Elab.async false
set_option linter.all false
set_option maxHeartbeats 4000000
namespace G81
open PySem PySem.Spec L2

structure Ctx where
  N : List Str
  sc : Scope
  own : Option Scope
  fns : List Str
  gls : List Str
  cls : List Str
  hot : Bool
  obj : Bool
/-- b, where no error is being handled -/
def calmB (x : Ctx) (b : Bool) : Bool := b && !x.hot
theorem calmB_1 {x : Ctx} {b : Bool} (h : calmB x b = true) : b = true := by
  unfold calmB at h
  exact (Bool.and_eq_true_iff.mp h).1
theorem calmB_2 {x : Ctx} {b : Bool} (h : calmB x b = true) : x.hot = false := by
  unfold calmB at h
  simpa using (Bool.and_eq_true_iff.mp h).2
def okName (y : Str) : Bool := decide (y ≠ "__debug__") && decide (y ≠ "__classdict__") && decide (y ≠ "__name__")
def isVis (sc : Scope) (y : Str) : Bool :=
  match sc.names.lookup y with
  | some .local => true
  | some .cell => true
  | some .free => true
  | _ => false
def isLoc (x : Ctx) (y : Str) : Bool :=
  match x.sc.names.lookup y with
  | some .local => true
  | some .cell => (match x.own with
    | none => true
    | some s => decide (s.names.lookup y = some .cell))
  | _ => false
def isGlob (sc : Scope) (y : Str) : Bool := decide (sc.names.lookup y = some .globalImplicit)
inductive BK where
  | fn (id : String)
  | ty (T : String)
def biKind : Bi → Option (Str × BK)
  | .len => some ("len", .fn "len")
  | .max => some ("max", .fn "max")
  | .abs => some ("abs", .fn "abs")
  | .int => some ("int", .ty "int")
  | .str => some ("str", .ty "str")
  | .sum => some ("sum", .fn "sum")
  | .any => some ("any", .fn "any")
  | .all => some ("all", .fn "all")
  | .tuple => some ("tuple", .ty "tuple")
  | .dict => some ("dict", .ty "dict")
  | .min => some ("min", .fn "min")
  | .sorted => some ("sorted", .fn "sorted")
  | .list => some ("list", .ty "list")
  | _ => none
def meOk : Me → Str
  | .index => "index"
  | .count => "count"
  | .get => "get"
  | .join => "join"
  | .split => "split"
  | .partition => "partition"
def isDflt : Option Str → Expr → Bool
  | some n, .Constant (.int _) _ _ => decide (n = Str.ofString "default")
  | _, _ => false
def blockOf (x : Ctx) (scope : Scope) : Ctx := { x with sc := relS scope x.sc, own := some scope }
def ownOf? (N : List Str) : List Nat → Option (List (Str × Nat))
  | [] => some []
  | i :: r => match N[i]? with
    | some y => (ownOf? N r).map ((y, i) :: ·)
    | none => none
def ckNames (x : Ctx) : List Nat → List Expr → Bool
  | [], [] => true
  | i :: r, .Name y _ :: es => decide (x.N[i]? = some y) && isLoc x y && ckNames x r es
  | _, _ => false
def ckP (x : Ctx) (g : Pt) (e : Expr) : Bool :=
  match g with
  | .one i => (match e with
    | .Name y _ => decide (x.N[i]? = some y) && isLoc x y
    | _ => false)
  | .tup is => (match e with
    | .Tuple es _ _ => calmB x (ckNames x is es)
    | _ => false)
  | .tup2 i is => (match e with
    | .Tuple [.Name y _, .Tuple es _ _] _ _ => decide (x.N[i]? = some y) && isLoc x y && calmB x (ckNames x is es)
    | _ => false)
def ckK (d : D) (e : Expr) : Bool :=
  match d, e with
  | .int i, .Constant (.int j) _ _ => decide (i = j)
  | .bl i, .Constant (.bool j) _ _ => decide (i = j)
  | .str i, .Constant (.str j) _ _ => decide (i = j)
  | .non, .Constant .none _ _ => true
  | _, _ => false
/-- a core that may stand where a test stands -/
def C.tst : C → Bool
  | .not a => a.tst
  | .and a b => a.tst && b.tst
  | .or a b => a.tst && b.tst
  | .ife _ _ _ => false
  | _ => true
def Cs.isNil : Cs → Bool
  | .nil => true
  | .cons _ _ => false
/-- the rest of an and, or -/
def tailB (op : BoolOp) (y : Expr) (rest : List Expr) (pos : Pos) : Expr :=
  match rest with
  | [] => y
  | _ :: _ => .BoolOp op (y :: rest) pos
mutual
/-- a plain value within {..} -/
def kvCk (x : Ctx) : C → Expr → Bool
  | .k d, e => ckK d e
  | .var i, e => (match e with
    | .Name y _ => decide (x.N[i]? = some y) && okName y && isVis x.sc y
    | _ => false)
  | .tup es, e => (match e with
    | .Tuple l _ _ => decide (l.length ≤ 1000) && kvAs x es l
    | _ => false)
  | _, _ => false
def kvAs (x : Ctx) : Cs → List Expr → Bool
  | .nil, l => l.isEmpty
  | .cons c r, l => (match l with
    | e :: es => (nst e && kvCk x c e) && kvAs x r es
    | [] => false)
end
def dspCk (x : Ctx) : Cs → Cs → List (Option Expr) → List Expr → Bool
  | .nil, .nil, [], [] => true
  | .cons (.k (.str s)) ks, .cons v vs, some (.Constant (.str t) _ _) :: keys, e :: es => decide (s = t) && kvCk x v e && dspCk x ks vs keys es
  | _, _, _, _ => false
mutual
def ck (x : Ctx) : C → Expr → Bool
  | .k d, e => ckK d e
  | .glob n, e => (match e with
    | .Name y _ => decide (y = n) && okName y && isGlob x.sc y && decide (y ∈ x.gls)
    | _ => false)
  | .var i, e => (match e with
    | .Name y _ => decide (x.N[i]? = some y) && okName y && isVis x.sc y
    | _ => false)
  | .tup es, e => (match e with
    | .Tuple l _ _ => decide (l.length ≤ 1000) && ckAs x es l
    | _ => false)
  | .lst es, e => (match e with
    | .List l _ => decide (l.length ≤ 1000) && ckAs x es l
    | _ => false)
  | .dsp ks vs, e => (match e with
    | .Dict [] [] _ => ks.isNil && vs.isNil
    | .Dict (k0 :: kr) es _ => decide ((k0 :: kr).length ≤ 15) && dspCk x ks vs (k0 :: kr) es
    | _ => false)
  | .bin op a b, e => (match e with
    | .BinOp a' op' b' _ => decide (op = op') && ck x a a' && ck x b b'
    | _ => false)
  | .neg a, e => (match e with
    | .UnaryOp .USub a' _ => ck x a a'
    | _ => false)
  | .not a, e => (match e with
    | .UnaryOp .Not a' _ => ck x a a'
    | _ => false)
  | .and a b, e => (match e with
    | .BoolOp .And (a' :: y :: rest) pos => ck x a a' && ck x b (tailB .And y rest pos)
    | _ => false)
  | .or a b, e => (match e with
    | .BoolOp .Or (a' :: y :: rest) pos => ck x a a' && ck x b (tailB .Or y rest pos)
    | _ => false)
  | .cmp op a b, e => (match e with
    | .Compare a' [op'] [b'] _ => decide (op = op') && ck x a a' && ck x b b'
    | _ => false)
  | .chain op op2 a b c, e => (match e with
    | .Compare a' [op', op2'] [b', c'] _ => decide (op = op') && decide (op2 = op2') && ck x a a' && ck x b b' && ck x c c'
    | _ => false)
  | .ife t a b, e => (match e with
    | .IfExp t' a' b' _ => t.tst && ck x t t' && ck x a a' && ck x b b'
    | _ => false)
  | .ix a i, e => (match e with
    | .Subscript a' i' _ => nst i' && ck x a a' && ck x i i'
    | _ => false)
  | .sl a lo hi, e => (match e with
    | .Subscript a' (.Slice lo' hi' none _) _ => ck x a a' && ckO x lo lo' && ckO x hi hi'
    | _ => false)
  | .comp elt g it t own, e => (match e with
    | .ListComp elt' [⟨tg, iter, ifs, 0⟩] scope _ => (match ownOf? x.N own with
      | some os => calmB x (blkC x.N x.sc scope os) && ckIt x it tg iter && ckP (blockOf x scope) g tg && g.slots.all (fun i => own.contains i) && ckT (blockOf x scope) t ifs && ck (blockOf x scope) elt elt'
      | none => false)
    | _ => false)
  | .call f es, e => (match e with
    | .Call (.Name y _) l [] _ => decide (y = f) && okName y && isGlob x.sc y && decide (y ∈ x.fns) && ckAs x es l
    | _ => false)
  | .bi b es, e => (match e with
    | .Call (.Name y _) l [] _ => (match biKind b with
      | some (n, _) => decide (y = n) && calmB x (isGlob x.sc y) && !l.isEmpty && ckAs x es l
      | none => (match b, l with
        | .sortedset, [.Call (.Name z _) [a] [] _] => decide (y = "sorted") && calmB x (isGlob x.sc y) && decide (z = "set") && isGlob x.sc z && ckAs x es [a]
        | .lenset, [.Call (.Name z _) [a] [] _] => decide (y = "len") && calmB x (isGlob x.sc y) && decide (z = "set") && isGlob x.sc z && ckAs x es [a]
        | .listrange, [.Call (.Name z _) [a] [] _] => decide (y = "list") && calmB x (isGlob x.sc y) && decide (z = "range") && isGlob x.sc z && ckAs x es [a]
        | .listrange, [.Call (.Name z _) [a, b'] [] _] => decide (y = "list") && calmB x (isGlob x.sc y) && decide (z = "range") && isGlob x.sc z && ckAs x es [a, b']
        | .listitems, [.Call (.Attribute a n apos) [] [] cpos] => decide (y = "list") && calmB x (isGlob x.sc y) && decide (n = "items") && (nsup a && (apos.endLine == cpos.line)) && ckAs x es [a]
        | _, _ => false))
    | .Call (.Name y _) [l] [⟨n, d, _⟩] _ => (match b with
      | .maxd => decide (y = "max") && calmB x (isGlob x.sc y) && nst l && isDflt n d && ckAs x es [l, d]
      | _ => false)
    | _ => false)
  | .me m r es, e => (match e with
    | .Call (.Attribute o n apos) l [] cpos => decide (n = meOk m) && nsup o && ck x r o && !l.isEmpty && decide (l.length ≤ 4) && ckAs x es l && (apos.endLine == cpos.line)
    | _ => false)
  | .isi a t, e => (match e with
    | .Call (.Name y _) [a', .Name z _] [] _ => decide (y = "isinstance") && isGlob x.sc y && nst a' && ck x a a' && decide (z = tyName t) && isGlob x.sc z
    | _ => false)
  | .chain3 o1 o2 o3 a b c d, e => (match e with
    | .Compare a' [o1', o2', o3'] [b', c', d'] _ => decide (o1 = o1') && decide (o2 = o2') && decide (o3 = o3') && ck x a a' && ck x b b' && ck x c c' && ck x d d'
    | _ => false)
  | .fnv f, e => (match e with
    | .Name y _ => decide (y = f) && okName y && isGlob x.sc y && decide (y ∈ x.fns)
    | _ => false)
  | .callv fe fs es, e => (match e with
    | .Call (.Subscript l i p) args [] _ => ck x fe (.Subscript l i p) && (!args.isEmpty && fs.all (fun f => decide (f ∈ x.fns)) && ckAs x es args)
    | _ => false)
  | .compk elt g i t own, e => (match e with
    | .ListComp elt' [⟨tg, .Name y _, ifs, 0⟩] scope _ => (match ownOf? x.N own with
      | some os => calmB x (blkC x.N x.sc scope os) && (decide (x.N[i]? = some y) && okName y && isVis x.sc y) && ckP (blockOf x scope) g tg && g.slots.all (fun i => own.contains i) && ckT (blockOf x scope) t ifs && ck (blockOf x scope) elt elt'
      | none => false)
    | _ => false)
  | .compx elt g it t own, e => (match e with
    | .ListComp elt' [⟨tg, iter, ifs, 0⟩] scope _ => (match ownOf? x.N own with
      | some os => calmB x (blkC x.N x.sc scope os) && ckIt x it tg iter && ckP (blockOf x scope) g tg && g.slots.all (fun i => own.contains i) && ckT (blockOf x scope) t ifs && ck (blockOf x scope) elt elt' && x.own.isNone
      | none => false)
    | _ => false)
  | .fld i k, e => (match e with
    | .Attribute (.Name y _) n _ => x.obj && (decide (n = fldN k) && (decide (x.N[i]? = some y) && okName y && isVis x.sc y))
    | _ => false)
  | .compf elt g i t own, e => (match e with
    | .ListComp elt' [⟨tg, .Attribute (.Name y _) n _, ifs, 0⟩] scope _ => (match ownOf? x.N own with
      | some os => x.obj && decide (n = fldN 0) && (calmB x (blkC x.N x.sc scope os) && (decide (x.N[i]? = some y) && okName y && isVis x.sc y) && ckP (blockOf x scope) g tg && g.slots.all (fun i => own.contains i) && ckT (blockOf x scope) t ifs && ck (blockOf x scope) elt elt')
      | none => false)
    | _ => false)
  | .rev a, e => (match e with
    | .Subscript a' (.Slice none none (some (.UnaryOp .USub (.Constant (.int 1) _ _) _)) _) _ => ck x a a'
    | _ => false)
  | .isx a t cs, e => (match e with
    | .Call (.Name y _) [a', .Name z _] [] _ => decide (y = "isinstance") && isGlob x.sc y && nst a' && ck x a a' && decide (z = t) && okName z && isGlob x.sc z && cs.all (fun c => decide (c ∈ x.cls)) && (decide (t = "ValueError") || decide (t ∈ x.cls))
    | _ => false)
def ckO (x : Ctx) : Co → Option Expr → Bool
  | .no, e => e.isNone
  | .so c, e => (match e with
    | some e' => ck x c e'
    | none => false)
def ckT (x : Ctx) : Co → List Expr → Bool
  | .no, e => e.isEmpty
  | .so c, e => (match e with
    | [e'] => c.tst && ck x c e'
    | _ => false)
def ckAs (x : Ctx) : Cs → List Expr → Bool
  | .nil, l => l.isEmpty
  | .cons c r, l => (match l with
    | e :: es => nst e && ck x c e && ckAs x r es
    | [] => false)
def ckIt (x : Ctx) : It → Expr → Expr → Bool
  | .seq c, _, e => nst e && ck x c e
  | .rng1 a, _, e => (match e with
    | .Call (.Name y _) [a'] [] _ => decide (y = "range") && isGlob x.sc y && nst a' && ck x a a'
    | _ => false)
  | .rng2 a b, _, e => (match e with
    | .Call (.Name y _) [a', b'] [] _ => decide (y = "range") && isGlob x.sc y && nst a' && nst b' && ck x a a' && ck x b b'
    | _ => false)
  | .zip a b, tg, e => (match tg, e with
    | .Tuple _ _ _, .Call (.Name y _) [a', b'] [] _ => decide (y = "zip") && isGlob x.sc y && nst a' && nst b' && ck x a a' && ck x b b'
    | _, _ => false)
  | .enum a, tg, e => (match tg, e with
    | .Tuple _ _ _, .Call (.Name y _) [a'] [] _ => decide (y = "enumerate") && isGlob x.sc y && nst a' && ck x a a'
    | _, _ => false)
end

def bnames : List Str := ["len", "max", "min", "abs", "int", "str", "sum", "any", "all", "sorted", "list", "tuple", "dict", "set", "range", "zip", "enumerate", "isinstance", "bool", "ValueError"]
/-- an own class of errors, over ValueError, without methods -/
structure ErrCls (K : PySem.W.Frag) (mg : Str → Option Value) (c : Str) (a : Addr) : Prop where
  at_ : mg c = some (.ref a)
  kp : PySem.W.keepIn K (.ref a) = true
  ex : PySem.W.excIn K a [.type "ValueError", .type "Exception", .type "BaseException", .type "object"] "ValueError.__new__" = true
  sub : PySem.W.subIn K (.ref a) (.type "BaseException") = some true
  ty : PySem.W.typeIn K (.ref a) = some (.type "type")
/-- what is asked of a class of errors, so that it may be caught and tested -/
def ErrX (K : PySem.W.Frag) (mg : Str → Option Value) (cls : List Str) (c : Str) : Prop := ∀ C, mg c = some (.ref C) → ExcC K C ∧ PySem.W.kitOne K (.ref C) (.type "ValueError") = some true ∧
  (∀ c' ∈ cls, ∀ C', mg c' = some (.ref C') → PySem.W.kitOne K (.ref C) (.ref C') = some (decide (c = c'))) ∧ ∃ S, mg "SheetError" = some (.ref S) ∧ PySem.W.exmOne K (.ref C) (.ref S) = some true
/-- a frame of a def's own -/
def FrX (X : Cx) : Prop := X.stack = X.env :: X.outer ∧ X.env.frame = some X.env.locals
structure CtxOk (cl : Str → List D → R W) (gl : Str → Option D) (x : Ctx) (X : Cx) (Wx : WX) : Prop where
  N : X.N = x.N
  nd : x.N.Nodup
  sc : X.env.scope = x.sc
  calm : x.hot = false → X.calm = true
  hu : X.A.units + 70 < cLine
  pa : Pa X Wx
  df : x.own = none → L2N.Takes X Wx ∧ FrX X
  fn : match x.own with
    | none => ∀ y, X.fn y = true
    | some s => ∀ y, X.fn y = (s.names.lookup y == some .cell)
  blt : ∀ y ∈ bnames, X.mg y = none
  gls : ∀ y ∈ x.gls, ∃ d u v, gl y = some d ∧ X.mg y = some u ∧ RelV v u ∧ ∀ F, Rep (gx X) F d v
  cls : ∀ c ∈ x.cls, ∃ a, ErrCls X.K X.mg c a
  exi : ∀ c ∈ x.cls, ErrX X.K X.mg x.cls c
  bnd : x.obj = true → BndOk X.K X.mg
  fns : ∀ f ∈ x.fns, ∃ k fa fd ps, X.mg f = some (.ref fa) ∧ PySem.W.keepIn X.K (.ref fa) = true ∧ Binds X.K fd ps [] ∧ Room k X.A ∧ FnOk X.prog X.w X.K X.mg X.base (L2N.CX X.prog X.w) k fa fd ps (spD (gx X) (cl f))
section
variable {cl : Str → List D → R W} {gl : Str → Option D} {x : Ctx} {X : Cx} {Wx : WX}
theorem CtxOk.block (h : CtxOk cl gl x X Wx) (s : Shared) (H : Hp) (scope : Scope) (C : Addr) (clo : List (Str × Addr)) (fp : List Addr) :
    CtxOk cl gl (blockOf x scope) (X.blk s H scope (compEnvC scope clo C X.env) fp) W0 where
  N := h.N
  nd := h.nd
  sc := by
    show relabel scope X.env = relS scope x.sc
    rw [← h.sc]
    rfl
  calm := h.calm
  hu := h.hu
  pa := fun σ pins H s e s' _ c => by
    obtain ⟨_, _, _, _, _, _, _, _, _, _, _, _, q⟩ := c
    exact q.elim
  df := fun z => nomatch z
  fn := fun _ => rfl
  blt := h.blt
  gls := h.gls
  cls := h.cls
  exi := h.exi
  bnd := h.bnd
  fns := h.fns
theorem CtxOk.blx (h : CtxOk cl gl x X Wx) (Wb : WX) (s : Shared) (H : Hp) (scope : Scope) (C : Addr) (clo : List (Str × Addr)) (fp : List Addr) (xe : Value → Shared → Prop) (pa : Pa (blx X s H scope (compEnvC scope clo C X.env) fp xe) Wb) :
    CtxOk cl gl (blockOf x scope) (G81.blx X s H scope (compEnvC scope clo C X.env) fp xe) Wb where
  N := h.N
  nd := h.nd
  sc := by
    show relabel scope X.env = relS scope x.sc
    rw [← h.sc]
    rfl
  calm := h.calm
  hu := h.hu
  pa := pa
  df := fun z => nomatch z
  fn := fun _ => rfl
  blt := h.blt
  gls := h.gls
  cls := h.cls
  exi := h.exi
  bnd := h.bnd
  fns := h.fns
theorem starEach_cons {e : Expr} {es : List Expr} {env : Env} (h : nst e = true) : starEach (e :: es) env = (false, eval e env) :: starEach es env := by
  cases e <;> first | rfl | cases h
theorem star_any {env : Env} {pos : Pos} : ∀ {es : List Expr}, (∀ e ∈ es, nst e = true) → (backTo pos (starEach es env)).any (·.1) = false
  | [], _ => rfl
  | e :: es, h => by
    rw [starEach_cons (h e List.mem_cons_self)]
    show (backTo pos ((false, eval e env) :: starEach es env)).any (·.1) = false
    have ih := star_any (env := env) (pos := pos) fun e' he' => h e' (List.mem_cons_of_mem _ he')
    unfold backTo at ih ⊢
    rw [List.map_cons, List.any_cons, ih]
    rfl
theorem plain_ix {e : Expr} (h : nst e = true) : PlainIx e := fun o i => by
  cases e <;> first | rfl | cases h
theorem no_set {e : Expr} (h : nst e = true) {op : CmpOp} : behindInMarks op e = false := by
  cases e <;> first | rfl | cases h
theorem no_set2 {b c : Expr} {op op' : CmpOp} (h : nst c = true) : lastMarks [op, op'] [b, c] = false := by
  show behindInMarks op' c = false
  exact no_set h
theorem no_fold {e : Expr} {env : Env} (h : nst e = true) (v : Value) : foldedSetIterable e env v = pure v := by
  cases e <;> first | rfl | cases h
theorem nst_ck (c : C) {e : Expr} (h : ck x c e = true) : nst e = true := by
  cases e <;> first
    | rfl
    | (exfalso
       cases c <;> first
         | (unfold ck at h; cases h; done)
         | (rename_i d; unfold ck at h; cases d <;> cases h))
theorem okName_dbg {y : Str} (h : okName y = true) : (y == ("__debug__" : Str)) = false ∧ (y == ("__classdict__" : Str)) = false ∧ y ≠ "__name__" := by
  simp only [okName, Bool.and_eq_true, decide_eq_true_eq] at h
  exact ⟨beq_eq_false_iff_ne.mpr h.1.1, beq_eq_false_iff_ne.mpr h.1.2, h.2⟩
theorem CtxOk.vis (h : CtxOk cl gl x X Wx) {y : Str} (v : isVis x.sc y = true) : Vis X.env.scope y := by
  rw [h.sc]
  unfold isVis at v
  unfold Vis
  split at v
  · rename_i e; exact .inl e
  · rename_i e; exact .inr (.inl e)
  · rename_i e; exact .inr (.inr e)
  · cases v
theorem CtxOk.gl_ (h : CtxOk cl gl x X Wx) {y : Str} (v : isGlob x.sc y = true) : Gl X y := by
  show X.env.scope.names.lookup y = _
  rw [h.sc]
  exact of_decide_eq_true v
theorem CtxOk.var (h : CtxOk cl gl x X Wx) {y : Str} {i : Nat} {pos : Pos} (e : x.N[i]? = some y) (o : okName y = true) (v : isVis x.sc y = true) : PE X (.Name y pos) (tVar i) :=
  pe_var (by rw [h.N]; exact e) (h.vis v) (okName_dbg o).1 (okName_dbg o).2.1
theorem CtxOk.loc (h : CtxOk cl gl x X Wx) {y : Str} {i : Nat} {pos : Pos} (e : x.N[i]? = some y) (v : isLoc x y = true) : PG X (.Name y pos) (gName i) := by
  have hN : X.N[i]? = some y := by rw [h.N]; exact e
  have nd : X.N.Nodup := by rw [h.N]; exact h.nd
  unfold isLoc at v
  split at v
  · rename_i q
    rw [← h.sc] at q
    exact pg_name nd hN (.inl q) (.inr q)
  · rename_i q
    rw [← h.sc] at q
    have f := h.fn
    cases eo : x.own with
    | none =>
      rw [eo] at f
      exact pg_name nd hN (.inr q) (.inl (f y))
    | some s =>
      rw [eo] at f v
      refine pg_name nd hN (.inr q) (.inl ?_)
      rw [f y]
      have v : decide (s.names.lookup y = some .cell) = true := v
      rw [of_decide_eq_true v]
      rfl
  · cases v
theorem CtxOk.names (h : CtxOk cl gl x X Wx) : ∀ {is : List Nat} {es : List Expr}, ckNames x is es = true → PGs X es (gNames is) ∧ (assignEach es X.env).length = is.length ∧ (assignEach es X.env).findIdx? (·.1) = none
  | [], [], _ => ⟨pgs_nil, rfl, rfl⟩
  | [], e :: es, c => by cases c
  | i :: is, [], c => by simp [ckNames] at c
  | i :: is, e :: es, c => by
    cases e with
    | Name y p =>
      simp only [ckNames, Bool.and_eq_true, decide_eq_true_eq] at c
      have r := h.names c.2
      obtain ⟨r1, r2, r3⟩ := r
      refine ⟨pgs_cons (h.loc c.1.1 c.1.2) r1, ?_, ?_⟩
      · show (_ :: assignEach es X.env).length = _
        rw [List.length_cons, List.length_cons, r2]
      · show ((false, _) :: assignEach es X.env).findIdx? (·.1) = none
        rw [List.findIdx?_cons, r3]
        rfl
    | _ => simp [ckNames] at c
theorem CtxOk.pt (h : CtxOk cl gl x X Wx) {g : Pt} {e : Expr} (c : ckP x g e = true) : PG X e (gPt X.K g) := by
  cases g with
  | one i =>
    cases e with
    | Name y p =>
      simp only [ckP, Bool.and_eq_true, decide_eq_true_eq] at c
      exact h.loc c.1 c.2
    | _ => cases c
  | tup is =>
    cases e with
    | Tuple es k p =>
      have r := h.names (is := is) (es := es) (calmB_1 c)
      exact pg_tup (n := is.length) (h.calm (calmB_2 c)) r.1 r.2.1 r.2.2
    | _ => cases c
  | tup2 i is =>
    unfold ckP at c
    dsimp only at c
    split at c
    · rename_i y p es k2 p2 k p3
      simp only [Bool.and_eq_true, decide_eq_true_eq] at c
      obtain ⟨⟨c1, c2⟩, c3⟩ := c
      have r := h.names (is := is) (es := es) (calmB_1 c3)
      have q2 := pg_tup (k := k2) (pos := p2) (n := is.length) (h.calm (calmB_2 c3)) r.1 r.2.1 r.2.2
      exact pg_tup (n := 2) (h.calm (calmB_2 c3)) (pgs_cons (h.loc c1 c2) (pgs_cons q2 pgs_nil)) rfl rfl
    · cases c
end
end G81
end
section
set_option Elab.async false
set_option linter.all false
set_option maxHeartbeats 4000000
namespace G81
open PySem PySem.Spec L2
section
variable {cl : Str → List D → R W} {gl : Str → Option D} {x : Ctx} {X : Cx} {Wx : WX}
theorem bor_ck {c : C} {e : Expr} (h : CtxOk cl gl x X Wx) (k : ck x c e = true) (p : PE X e (tD (gx X) Wx (evW cl gl c))) :
    PE X e (tBo (gx X) Wx (fun ρ => bor c ρ (evW cl gl c ρ)) (fun ρ => lent c ρ)) := by
  by_cases hv : ∃ i, c = .var i
  · obtain ⟨i, rfl⟩ := hv
    cases e with
    | Name y pos =>
      simp only [ck, Bool.and_eq_true, decide_eq_true_eq] at k
      exact bor_var (h.var k.1.1 k.1.2 k.2)
    | _ => simp [ck] at k
  · by_cases hf : ∃ i k, c = .fld i k
    · obtain ⟨i, k', rfl⟩ := hf
      cases e with
      | Attribute o n pos =>
        cases o with
        | Name y yp =>
          simp only [ck, Bool.and_eq_true, decide_eq_true_eq] at k
          obtain ⟨k0, rfl, ⟨k1, k2⟩, k3⟩ := k
          exact bor_fld (h.bnd k0) (h.var k1 k2 k3) rfl
        | _ => simp [ck] at k
      | _ => simp [ck] at k
    · exact bor_gen (fun i z => hv ⟨i, z⟩) (fun i k z => hf ⟨i, k, z⟩) p
theorem plain_true {c : C} {e : Expr} (k : ck x c e = true) (h1 : ∀ a, c ≠ .not a) (h2 : ∀ a b, c ≠ .and a b) (h3 : ∀ a b, c ≠ .or a b) (h4 : ∀ t a b, c ≠ .ife t a b) (h5 : ∀ op a b, c ≠ .cmp op a b) (h6 : ∀ op op' a b d, c ≠ .chain op op' a b d) (h7 : ∀ p q r a b d e, c ≠ .chain3 p q r a b d e) (env : Env) :
    ∀ whole, isTrue e env whole = (do let v ← whole; standAt e.pos; holding [v] (truthy v)) := fun whole => by
  cases e with
  | UnaryOp op a p =>
    cases op <;> first | rfl | skip
    exfalso
    cases c <;> first | exact h1 _ rfl | (simp [ck] at k; done) | (rename_i d; cases d <;> simp [ck, ckK] at k)
  | BoolOp op vs p =>
    exfalso
    cases c <;> first | exact h2 _ _ rfl | exact h3 _ _ rfl | (simp [ck] at k; done) | (rename_i d; cases d <;> simp [ck, ckK] at k)
  | IfExp t a b p =>
    exfalso
    cases c <;> first | exact h4 _ _ _ rfl | (simp [ck] at k; done) | (rename_i d; cases d <;> simp [ck, ckK] at k)
  | Compare a ops bs p =>
    exfalso
    cases c <;> first | exact h5 _ _ _ rfl | exact h6 _ _ _ _ _ rfl | exact h7 _ _ _ _ _ _ _ rfl | (simp [ck] at k; done) | (rename_i d; cases d <;> simp [ck, ckK] at k)
  | _ => rfl
theorem scal_len : ∀ {es : Cs} {l : List Expr}, ckAs x es l = true → ∀ {ρ : En} {ds : List D}, evVs cl gl es ρ = .ok ds → ds.length = l.length
  | .nil, l, k, ρ, ds, e => by
    have e : R.ok [] = R.ok ds := e
    cases e
    cases l with
    | nil => rfl
    | cons a b => simp [ckAs] at k
  | .cons c r, l, k, ρ, ds, e => by
    cases l with
    | nil => simp [ckAs] at k
    | cons a b =>
      simp only [ckAs, Bool.and_eq_true] at k
      have e : (evW cl gl c ρ).bind (fun w => (evVs cl gl r ρ).map fun ds => w.toD :: ds) = .ok ds := e
      cases ew : evW cl gl c ρ with
      | exc _ => rw [ew] at e; cases e
      | stuck => rw [ew] at e; cases e
      | ok w =>
        rw [ew] at e
        obtain ⟨ds', e1, rfl⟩ := map_ok (show (evVs cl gl r ρ).map _ = _ from e)
        rw [List.length_cons, List.length_cons, scal_len (es := r) k.2 e1]
theorem nst_all : ∀ {es : Cs} {l : List Expr}, ckAs x es l = true → ∀ e ∈ l, nst e = true
  | .nil, l, k, e, he => by
    cases l with
    | nil => cases he
    | cons a b => simp [ckAs] at k
  | .cons c r, l, k, e, he => by
    cases l with
    | nil => cases he
    | cons a b =>
      simp only [ckAs, Bool.and_eq_true] at k
      rcases List.mem_cons.mp he with rfl | he
      · exact k.1.1
      · exact nst_all (es := r) k.2 e he
/-- a built-in's rule -/
theorem bi_rule (h : CtxOk cl gl x X Wx) (hc : X.calm = true) {b : Bi} {n : Str} {kd : BK} (e : biKind b = some (n, kd)) : X.mg n = none ∧ n ≠ "__name__" ∧ (n == ("__debug__" : Str)) = false ∧ (match kd with
    | .fn id => CallR X (.builtin id) (rBi (gx X) (biEv b)) ∧ bootBuiltins n = some (.builtin id)
    | .ty T => CallR X (.type T) (rBi (gx X) (biEv b)) ∧ bootBuiltins n = some (.type T)) := by
  cases b <;> simp only [biKind, Option.some.injEq, Prod.mk.injEq, reduceCtorEq] at e <;> obtain ⟨rfl, rfl⟩ := e
  · exact ⟨h.blt _ (by decide +kernel), by decide +kernel, by decide +kernel, bi_len, by decide +kernel⟩
  · exact ⟨h.blt _ (by decide +kernel), by decide +kernel, by decide +kernel, bi_max hc, by decide +kernel⟩
  · exact ⟨h.blt _ (by decide +kernel), by decide +kernel, by decide +kernel, bi_min hc (by have := h.hu; omega), by decide +kernel⟩
  · exact ⟨h.blt _ (by decide +kernel), by decide +kernel, by decide +kernel, bi_abs, by decide +kernel⟩
  · exact ⟨h.blt _ (by decide +kernel), by decide +kernel, by decide +kernel, bi_int, by decide +kernel⟩
  · exact ⟨h.blt _ (by decide +kernel), by decide +kernel, by decide +kernel, bi_str, by decide +kernel⟩
  · exact ⟨h.blt _ (by decide +kernel), by decide +kernel, by decide +kernel, bi_sum hc, by decide +kernel⟩
  · exact ⟨h.blt _ (by decide +kernel), by decide +kernel, by decide +kernel, bi_any hc, by decide +kernel⟩
  · exact ⟨h.blt _ (by decide +kernel), by decide +kernel, by decide +kernel, bi_all hc, by decide +kernel⟩
  · exact ⟨h.blt _ (by decide +kernel), by decide +kernel, by decide +kernel, bi_sorted hc (by have := h.hu; omega), by decide +kernel⟩
  · exact ⟨h.blt _ (by decide +kernel), by decide +kernel, by decide +kernel, bi_list hc, by decide +kernel⟩
  · exact ⟨h.blt _ (by decide +kernel), by decide +kernel, by decide +kernel, bi_tuple, by decide +kernel⟩
  · exact ⟨h.blt _ (by decide +kernel), by decide +kernel, by decide +kernel, bi_dict hc, by decide +kernel⟩
theorem tru_and {r s : R W} : tru ((tru r).bind fun c => if c = true then (tru s).map boolW else .ok (boolW false)) = (tru r).bind fun c => if c = true then tru s else .ok false := by
  cases tru r with
  | ok c => cases c with
    | true => exact tru_map
    | false => rfl
  | exc c => rfl
  | stuck => rfl
theorem tru_or {r s : R W} : tru ((tru r).bind fun c => if c = true then .ok (boolW true) else (tru s).map boolW) = (tru r).bind fun c => if c = true then .ok true else tru s := by
  cases tru r with
  | ok c => cases c with
    | false => exact tru_map
    | true => rfl
  | exc c => rfl
  | stuck => rfl
theorem tru_not {r : R W} : tru ((tru r).map fun b => boolW (!b)) = (tru r).map fun b => !b := by
  cases tru r <;> rfl
/-- a value that may only be a truth value -/
theorem tru_as {f : En → R W} {e : Expr} (h : PE X e (tD (gx X) Wx f)) : PE X e (tD (gx X) Wx fun ρ => (tru (f ρ)).map boolW) :=
  PE_imp h fun σ H Q ⟨F0, H0, F, ρ, R, o⟩ => by
    refine ⟨F0, H0, F, ρ, R, ?_⟩
    dsimp only at o
    cases ef : f ρ with
    | ok w =>
      rw [ef] at o
      cases w with
      | d d => cases d <;> first | exact o | exact (show False from o).elim
      | _ => exact (show False from o).elim
    | exc c => rw [ef] at o; exact o
    | stuck => rw [ef] at o; exact o
theorem list_ne {l : List Expr} (h : (!l.isEmpty) = true) : ∃ e es, l = e :: es := by
  cases l with
  | nil => cases h
  | cons e es => exact ⟨e, es, rfl⟩
theorem call_nil {f : Str} : (fun ρ : En => (R.ok (([] : List D), false)).bind fun ab => callEv cl f ab) = fun _ => match cl f [] with
  | .ok w => .ok w
  | _ => .stuck := rfl
theorem ownOf_map : ∀ {own : List Nat} {N : List Str} {os : List (Str × Nat)}, ownOf? N own = some os → os.map (·.2) = own
  | [], N, os, h => by cases h; rfl
  | i :: r, N, os, h => by
    unfold ownOf? at h
    split at h
    · obtain ⟨os', e1, rfl⟩ := Option.map_eq_some_iff.mp h
      rw [List.map_cons, ownOf_map e1]
    · cases h
end

def Snd (cl : Str → List D → R W) (gl : Str → Option D) (c : C) : Prop := ∀ (x : Ctx) (X : Cx) (Wx : WX) (e : Expr), CtxOk cl gl x X Wx → ck x c e = true →
  PE X e (tD (gx X) Wx (evW cl gl c)) ∧ (c.tst = true → PT X e (tTt (gx X) Wx fun ρ => tru (evW cl gl c ρ))) ∧
  (c.tst = true → ∀ op vs p, e = .BoolOp op vs p → PW X e (tTt (gx X) Wx fun ρ => tru (evW cl gl c ρ)))
def SndO (cl : Str → List D → R W) (gl : Str → Option D) (c : Co) : Prop := ∀ (x : Ctx) (X : Cx) (Wx : WX), CtxOk cl gl x X Wx →
  (∀ {e : Option Expr}, ckO x c e = true → PO X e (tOs (gx X) Wx (evO cl gl c))) ∧ (∀ {e : List Expr}, ckT x c e = true → PTs X e (tTt (gx X) Wx (evT cl gl c)))
def SndA (cl : Str → List D → R W) (gl : Str → Option D) (c : Cs) : Prop := ∀ (x : Ctx) (X : Cx) (Wx : WX) (l : List Expr), CtxOk cl gl x X Wx → ckAs x c l = true →
  PA X l (tAs (gx X) Wx (evBs cl gl c)) ∧ PA X l (tVs (gx X) Wx (evVs cl gl c))
def SndI (cl : Str → List D → R W) (gl : Str → Option D) (c : It) : Prop := ∀ (x : Ctx) (X : Cx) (Wx : WX) (tg e : Expr), CtxOk cl gl x X Wx → ckIt x c tg e = true →
  PI X tg e (iD (gx X) Wx (evIt cl gl c)) ∧ ∀ v, foldedSetIterable e X.env v = pure v
section
variable {cl : Str → List D → R W} {gl : Str → Option D}
/-- where no test's form is special -/
theorem snd_val {c : C} {x : Ctx} {X : Cx} {Wx : WX} {e : Expr} (k : ck x c e = true) (h1 : ∀ a, c ≠ .not a) (h2 : ∀ a b, c ≠ .and a b) (h3 : ∀ a b, c ≠ .or a b) (h4 : ∀ t a b, c ≠ .ife t a b) (h5 : ∀ op a b, c ≠ .cmp op a b) (h6 : ∀ op op' a b d, c ≠ .chain op op' a b d) (h7 : ∀ p q r a b d e, c ≠ .chain3 p q r a b d e)
    (p : PE X e (tD (gx X) Wx (evW cl gl c))) : PE X e (tD (gx X) Wx (evW cl gl c)) ∧ (c.tst = true → PT X e (tTt (gx X) Wx fun ρ => tru (evW cl gl c ρ))) ∧
      (c.tst = true → ∀ op vs p, e = .BoolOp op vs p → PW X e (tTt (gx X) Wx fun ρ => tru (evW cl gl c ρ))) := by
  refine ⟨p, fun _ => t_val (plain_true k h1 h2 h3 h4 h5 h6 h7 X.env) p, fun _ op vs p' ee => ?_⟩
  subst ee
  exfalso
  cases c <;> first | exact h2 _ _ rfl | exact h3 _ _ rfl | (simp [ck] at k; done) | (rename_i d; cases d <;> simp [ck, ckK] at k)
theorem snd_k (d : D) : Snd cl gl (.k d) := fun x X Wx e h k => by
  refine snd_val k (by simp) (by simp) (by simp) (by simp) (by simp) (by simp) (by simp) ?_
  have k : ckK d e = true := by simpa [ck] using k
  unfold ckK at k
  split at k
  · rw [of_decide_eq_true k]; exact d_const pe_int fun _ => rfl
  · rw [of_decide_eq_true k]; exact d_const pe_bl fun _ => rfl
  · rw [of_decide_eq_true k]; exact d_const pe_str fun _ => rfl
  · exact d_const pe_non fun _ => rfl
  · cases k
theorem snd_glob (n : Str) : Snd cl gl (.glob n) := fun x X Wx e h k => by
  refine snd_val k (by simp) (by simp) (by simp) (by simp) (by simp) (by simp) (by simp) ?_
  cases e with
  | Name y p =>
    simp only [ck, Bool.and_eq_true, decide_eq_true_eq] at k
    obtain ⟨⟨⟨rfl, ok⟩, g⟩, m⟩ := k
    obtain ⟨d, u, v, e1, e2, r, rr⟩ := h.gls y m
    have e : evW cl gl (.glob y) = fun _ => .ok (.d d) := by
      funext ρ
      show (R.of (gl y)).map W.d = _
      rw [e1]
      rfl
    rw [e]
    exact d_const (pe_glob (h.gl_ g) e2 r (okName_dbg ok).1) rr
  | _ => simp [ck] at k
theorem snd_var (i : Nat) : Snd cl gl (.var i) := fun x X Wx e h k => by
  refine snd_val k (by simp) (by simp) (by simp) (by simp) (by simp) (by simp) (by simp) ?_
  cases e with
  | Name y p =>
    simp only [ck, Bool.and_eq_true, decide_eq_true_eq] at k
    exact d_var (h.var k.1.1 k.1.2 k.2)
  | _ => simp [ck] at k
theorem kv_len {x : Ctx} : ∀ {es : Cs} {l : List Expr}, kvAs x es l = true → ∀ {ρ : En} {ds : List D}, evVs cl gl es ρ = .ok ds → ds.length = l.length
  | .nil, l, k, ρ, ds, e => by
    have e : R.ok [] = R.ok ds := e
    cases e
    cases l with
    | nil => rfl
    | cons a b => simp [kvAs] at k
  | .cons c r, l, k, ρ, ds, e => by
    cases l with
    | nil => simp [kvAs] at k
    | cons a b =>
      simp only [kvAs, Bool.and_eq_true] at k
      have e : (evW cl gl c ρ).bind (fun w => (evVs cl gl r ρ).map fun ds => w.toD :: ds) = .ok ds := e
      cases ew : evW cl gl c ρ with
      | exc _ => rw [ew] at e; cases e
      | stuck => rw [ew] at e; cases e
      | ok w =>
        rw [ew] at e
        obtain ⟨ds', e1, rfl⟩ := map_ok (show (evVs cl gl r ρ).map _ = _ from e)
        rw [List.length_cons, List.length_cons, kv_len (es := r) k.2 e1]
mutual
theorem snd_kv {x : Ctx} {X : Cx} {Wx : WX} (h : CtxOk cl gl x X Wx) : ∀ (v : C) (e : Expr), kvCk x v e = true → PE X e (tD (gx X) Wx (evW cl gl v))
  | v, e, k => by
    cases v with
    | k d => exact (snd_k d x X Wx e h (by simpa [ck, kvCk] using k)).1
    | var i => exact (snd_var i x X Wx e h (by simpa only [ck, kvCk] using k)).1
    | tup es =>
      unfold kvCk at k
      split at k
      · simp only [Bool.and_eq_true, decide_eq_true_eq] at k
        exact d_tup (fun ρ ds e => by rw [kv_len k.2 e]; have := k.1; have hs : SIZE = 1000000 := rfl; omega) (snd_kvA h es _ k.2)
      · cases k
    | _ => simp [kvCk] at k
theorem snd_kvA {x : Ctx} {X : Cx} {Wx : WX} (h : CtxOk cl gl x X Wx) : ∀ (es : Cs) (l : List Expr), kvAs x es l = true → PA X l (tVs (gx X) Wx (evVs cl gl es))
  | .nil, l, k => by
    cases l with
    | nil => exact v_nil
    | cons a b => simp [kvAs] at k
  | .cons c r, l, k => by
    cases l with
    | nil => simp [kvAs] at k
    | cons a b =>
      simp only [kvAs, Bool.and_eq_true] at k
      exact v_cons (starEach_cons k.1.1) (snd_kv h c a k.1.2) (snd_kvA h r b k.2)
end
theorem dsp_gs {x : Ctx} {X : Cx} {Wx : WX} {pos : Pos} (h : CtxOk cl gl x X Wx) : ∀ (ks vs : Cs) (keys : List (Option Expr)) (es : List Expr), dspCk x ks vs keys es = true →
    ∃ gs : List (Str × (En → R W)), PPs X pos keys es (gs.map fun g => (tC (.str g.1), tD (gx X) Wx g.2)) ∧ (∀ ρ, evVs cl gl ks ρ = .ok (gs.map fun g => D.str g.1)) ∧ (∀ ρ, evVs cl gl vs ρ = gsEv (gs.map fun g => g.2) ρ) ∧ gs.length = keys.length ∧ keys.all (·.isSome) = true ∧ keys.length = es.length
  | ks, vs, keys, es, k => by
    unfold dspCk at k
    split at k
    · exact ⟨[], pps_nil, fun _ => rfl, fun _ => rfl, rfl, rfl, rfl⟩
    · rename_i s ks v vs t _ _ keys e es
      simp only [Bool.and_eq_true, decide_eq_true_eq] at k
      obtain ⟨⟨rfl, kv⟩, kr⟩ := k
      obtain ⟨gs, a1, a2, a3, a4, a5, a6⟩ := dsp_gs h ks vs keys es kr
      refine ⟨(s, evW cl gl v) :: gs, pps_cons pe_str (snd_kv h v e kv) a1, fun ρ => ?_, fun ρ => ?_, ?_, ?_, ?_⟩
      · rw [evVs, a2]; rfl
      · rw [evVs, a3]; rfl
      · rw [List.length_cons, List.length_cons, a4]
      · rw [List.all_cons, a5]; rfl
      · rw [List.length_cons, List.length_cons, a6]
    · cases k
theorem snd_dsp {x : Ctx} {X : Cx} {Wx : WX} {pos : Pos} (h : CtxOk cl gl x X Wx) {ks vs : Cs} {keys : List (Option Expr)} {es : List Expr} (k : dspCk x ks vs keys es = true) (h15 : keys.length ≤ 15) (h0 : keys ≠ []) : PE X (.Dict keys es pos) (tD (gx X) Wx (evW cl gl (.dsp ks vs))) := by
  obtain ⟨gs, a1, a2, a3, a4, a5, a6⟩ := dsp_gs (pos := pos) h ks vs keys es k
  have d := d_disp gs a1 a5 a6 h0 h15 a4
  have ee : evW cl gl (.dsp ks vs) = fun ρ => (gsEv (gs.map fun g => g.2) ρ).bind fun b => (R.of (pairs? (zipD (gs.map fun g => D.str g.1) b))).map fun kvs => .fd (mergeD [] kvs) := by
    funext ρ
    rw [evW, a2, a3]
    rfl
  rw [ee]
  exact d
theorem snd_comp {elt : C} {g : Pt} {it : It} {t : Co} {own : List Nat} (hi : SndI cl gl it) (ht : SndO cl gl t) (he : Snd cl gl elt) {x : Ctx} {X : Cx} {Wx : WX} {e : Expr} (h : CtxOk cl gl x X Wx) (k : ck x (.comp elt g it t own) e = true) :
    ∃ tt, (∀ σ H Q, tD (gx X) Wx (evW cl gl (.comp elt g it t own)) σ H Q → tt σ H Q) ∧ PE X e tt ∧
      ∀ (i : Nat) (y : Str) (py spos : Pos), X.N[i]? = some y → X.env.scope.names.lookup y = some .local → swapsWith e (some (.Name y py)) spos.line X.env = pure true → PS X (.Assign [.Name y py] e spos) (tAsg tt (gName i)) := by
  unfold ck at k
  split at k
  · rename_i elt' tg iter ifs scope pos
    split at k
    · rename_i os eos
      simp only [Bool.and_eq_true] at k
      obtain ⟨⟨⟨⟨⟨k1, k2⟩, k3⟩, k4⟩, k5⟩, k6⟩ := k
      have em := ownOf_map eos
      have ok : BlkOk X.N X.env.scope scope os := by rw [h.N, h.sc]; exact blkOk_by (calmB_1 k1)
      obtain ⟨p1, p2⟩ := hi _ _ _ _ _ h k2
      have := d_comp (Wx := Wx) (pos := pos) (elt := elt') (ifs := ifs) (fe := evW cl gl elt) (ft := evT cl gl t) (g := g) (h.calm (calmB_2 k1)) (by rw [h.N]; exact h.nd) p1 ok (by
        intro i hi
        rw [em]
        have := List.all_eq_true.mp k4 i hi
        simpa using this)
        (fun s H C clo fp => (h.block s H scope C clo fp).pt k3) (fun s H C clo fp => (ht _ _ _ (h.block s H scope C clo fp)).2 k5) (fun s H C clo fp => (he _ _ _ _ (h.block s H scope C clo fp) k6).1) p2
      rw [em] at this
      exact this
    · cases k
  · cases k
mutual
theorem snd : ∀ c : C, Snd cl gl c
  | .k d => snd_k d
  | .glob n => snd_glob n
  | .var i => snd_var i
  | .tup es => fun x X Wx e h k => by
    refine snd_val k (by simp) (by simp) (by simp) (by simp) (by simp) (by simp) (by simp) ?_
    cases e with
    | Tuple l kk p =>
      simp only [ck, Bool.and_eq_true, decide_eq_true_eq] at k
      exact d_tup (fun ρ ds e => by rw [scal_len k.2 e]; have := k.1; have hs : SIZE = 1000000 := rfl; omega) (sndA es _ _ _ _ h k.2).2
    | _ => simp [ck] at k
  | .lst es => fun x X Wx e h k => by
    refine snd_val k (by simp) (by simp) (by simp) (by simp) (by simp) (by simp) (by simp) ?_
    cases e with
    | List l p =>
      simp only [ck, Bool.and_eq_true, decide_eq_true_eq] at k
      exact d_lst (fun ρ ds e => by rw [scal_len k.2 e]; have := k.1; have hs : SIZE = 1000000 := rfl; omega) (sndA es _ _ _ _ h k.2).2
    | _ => simp [ck] at k
  | .dsp ks vs => fun x X Wx e h k => by
    refine snd_val k (by simp) (by simp) (by simp) (by simp) (by simp) (by simp) (by simp) ?_
    unfold ck at k
    split at k
    · rw [Bool.and_eq_true] at k
      cases ks with
      | nil =>
        cases vs with
        | nil => exact d_dnew
        | cons _ _ => exact absurd k.2 (by simp [Cs.isNil])
      | cons _ _ => exact absurd k.1 (by simp [Cs.isNil])
    · rw [Bool.and_eq_true, decide_eq_true_eq] at k
      exact snd_dsp h k.2 k.1 (by simp)
    · cases k
  | .bin op a b => fun x X Wx e h k => by
    refine snd_val k (by simp) (by simp) (by simp) (by simp) (by simp) (by simp) (by simp) ?_
    cases e with
    | BinOp a' op' b' p =>
      simp only [ck, Bool.and_eq_true, decide_eq_true_eq] at k
      obtain ⟨⟨rfl, ka⟩, kb⟩ := k
      exact d_bin op (bor_ck h ka (snd a _ _ _ _ h ka).1) (bor_ck h kb (snd b _ _ _ _ h kb).1)
    | _ => simp [ck] at k
  | .neg a => fun x X Wx e h k => by
    refine snd_val k (by simp) (by simp) (by simp) (by simp) (by simp) (by simp) (by simp) ?_
    cases e with
    | UnaryOp op a' p =>
      cases op with
      | USub =>
        have k : ck x a a' = true := by simpa [ck] using k
        exact d_neg (bor_ck h k (snd a _ _ _ _ h k).1)
      | _ => simp [ck] at k
    | _ => simp [ck] at k
  | .not a => fun x X Wx e h k => by
    cases e with
    | UnaryOp op a' p =>
      cases op with
      | Not =>
        have k : ck x a a' = true := by simpa [ck] using k
        have ia := snd a _ _ _ _ h k
        refine ⟨d_not ia.1, fun ht => ?_, fun _ op vs p' ee => by cases ee⟩
        have e : (fun ρ => tru (evW cl gl (.not a) ρ)) = fun ρ => (tru (evW cl gl a ρ)).map fun b => !b := funext fun ρ => tru_not
        rw [e]
        exact t_not (ia.2.1 ht)
      | _ => simp [ck] at k
    | _ => simp [ck] at k
  | .and a b => fun x X Wx e h k => by
    unfold ck at k
    split at k
    · rename_i a' y rest pos
      simp only [Bool.and_eq_true] at k
      have ia := snd a _ _ _ _ h k.1
      have ib := snd b _ _ _ _ h k.2
      have hb : PE X (.BoolOp .And (y :: rest) pos) (tD (gx X) Wx fun ρ => (tru (evW cl gl b ρ)).map boolW) := by
        cases rest with
        | nil => exact pe_one (tru_as ib.1)
        | cons z r => exact tru_as ib.1
      refine ⟨d_and ia.1 hb, ?_⟩
      have e : (fun ρ => tru (evW cl gl (.and a b) ρ)) = fun ρ => (tru (evW cl gl a ρ)).bind fun c => if c = true then tru (evW cl gl b ρ) else .ok false := funext fun ρ => tru_and
      rw [e]
      have w : (C.and a b).tst = true → PW X (.BoolOp .And (a' :: y :: rest) pos) (tTt (gx X) Wx fun ρ => (tru (evW cl gl a ρ)).bind fun c => if c = true then tru (evW cl gl b ρ) else .ok false) := fun ht => by
        have ht' : a.tst = true ∧ b.tst = true := by simpa [C.tst] using ht
        have wb : PW X (.BoolOp .And (y :: rest) pos) (tTt (gx X) Wx fun ρ => tru (evW cl gl b ρ)) := by
          cases rest with
          | nil => exact pw_and1 (ib.2.1 ht'.2)
          | cons z r => exact ib.2.2 ht'.2 _ _ _ rfl
        exact w_and (ia.2.1 ht'.1) wb
      exact ⟨fun ht => (w ht).pt, fun ht _ _ _ _ => w ht⟩
    · cases k
  | .or a b => fun x X Wx e h k => by
    unfold ck at k
    split at k
    · rename_i a' y rest pos
      simp only [Bool.and_eq_true] at k
      have ia := snd a _ _ _ _ h k.1
      have ib := snd b _ _ _ _ h k.2
      have hb : PE X (.BoolOp .Or (y :: rest) pos) (tD (gx X) Wx fun ρ => (tru (evW cl gl b ρ)).map boolW) := by
        cases rest with
        | nil => exact pe_one (tru_as ib.1)
        | cons z r => exact tru_as ib.1
      refine ⟨d_or ia.1 hb, ?_⟩
      have e : (fun ρ => tru (evW cl gl (.or a b) ρ)) = fun ρ => (tru (evW cl gl a ρ)).bind fun c => if c = true then .ok true else tru (evW cl gl b ρ) := funext fun ρ => tru_or
      rw [e]
      have w : (C.or a b).tst = true → PW X (.BoolOp .Or (a' :: y :: rest) pos) (tTt (gx X) Wx fun ρ => (tru (evW cl gl a ρ)).bind fun c => if c = true then .ok true else tru (evW cl gl b ρ)) := fun ht => by
        have ht' : a.tst = true ∧ b.tst = true := by simpa [C.tst] using ht
        have wb : PW X (.BoolOp .Or (y :: rest) pos) (tTt (gx X) Wx fun ρ => tru (evW cl gl b ρ)) := by
          cases rest with
          | nil => exact pw_or1 (ib.2.1 ht'.2)
          | cons z r => exact ib.2.2 ht'.2 _ _ _ rfl
        exact w_or (ia.2.1 ht'.1) wb
      exact ⟨fun ht => (w ht).pt, fun ht _ _ _ _ => w ht⟩
    · cases k
  | .cmp op a b => fun x X Wx e h k => by
    unfold ck at k
    split at k
    · simp only [Bool.and_eq_true, decide_eq_true_eq] at k
      obtain ⟨⟨rfl, ka⟩, kb⟩ := k
      have ia := bor_ck h ka (snd a _ _ _ _ h ka).1
      have ib := bor_ck h kb (snd b _ _ _ _ h kb).1
      have hm := no_set (op := op) (nst_ck b kb)
      have hu : X.A.units + 64 < cLine := by have := h.hu; omega
      exact ⟨d_cmp hu op hm ia ib, fun _ => t_cmp hu op hm ia ib, fun _ _ _ _ ee => by cases ee⟩
    · cases k
  | .chain op op2 a b c => fun x X Wx e h k => by
    unfold ck at k
    split at k
    · rename_i a' op' op2' b' c' pos
      simp only [Bool.and_eq_true, decide_eq_true_eq] at k
      obtain ⟨⟨⟨⟨rfl, rfl⟩, ka⟩, kb⟩, kc⟩ := k
      have ia := bor_ck h ka (snd a _ _ _ _ h ka).1
      have ib := bor_ck h kb (snd b _ _ _ _ h kb).1
      have ic := bor_ck h kc (snd c _ _ _ _ h kc).1
      have hm := no_set2 (op := op) (op' := op2) (b := b') (nst_ck c kc)
      have hu : X.A.units + 64 < cLine := by have := h.hu; omega
      exact ⟨d_chain hu op op2 hm ia ib ic, fun _ => t_chain hu op op2 hm ia ib ic, fun _ _ _ _ ee => by cases ee⟩
    · cases k
  | .ife t a b => fun x X Wx e h k => by
    unfold ck at k
    split at k
    · simp only [Bool.and_eq_true] at k
      obtain ⟨⟨⟨kt, k1⟩, k2⟩, k3⟩ := k
      exact ⟨d_if ((snd t _ _ _ _ h k1).2.1 kt) (snd a _ _ _ _ h k2).1 (snd b _ _ _ _ h k3).1, fun z => by simp [C.tst] at z, fun z => by simp [C.tst] at z⟩
    · cases k
  | .ix a i => fun x X Wx e h k => by
    refine snd_val k (by simp) (by simp) (by simp) (by simp) (by simp) (by simp) (by simp) ?_
    unfold ck at k
    split at k
    · simp only [Bool.and_eq_true] at k
      obtain ⟨⟨k1, k2⟩, k3⟩ := k
      have hu : X.A.units + 64 < cLine := by have := h.hu; omega
      exact d_ix hu (plain_ix k1) (bor_ck h k2 (snd a _ _ _ _ h k2).1) (bor_ck h k3 (snd i _ _ _ _ h k3).1)
    · cases k
  | .sl a lo hi => fun x X Wx e h k => by
    refine snd_val k (by simp) (by simp) (by simp) (by simp) (by simp) (by simp) (by simp) ?_
    unfold ck at k
    split at k
    · simp only [Bool.and_eq_true] at k
      obtain ⟨⟨k1, k2⟩, k3⟩ := k
      exact d_sl (bor_ck h k1 (snd a _ _ _ _ h k1).1) ((sndO lo _ _ _ h).1 k2) ((sndO hi _ _ _ h).1 k3)
    · cases k
  | .comp elt g it t own => fun x X Wx e h k => by
    refine snd_val k (by simp) (by simp) (by simp) (by simp) (by simp) (by simp) (by simp) ?_
    obtain ⟨tt, i, p, _⟩ := snd_comp (sndI it) (sndO t) (snd elt) h k
    exact PE_imp p i
  | .fld i kf => fun x X Wx e h k => by
    refine snd_val k (by simp) (by simp) (by simp) (by simp) (by simp) (by simp) (by simp) ?_
    cases e with
    | Attribute o n pos =>
      cases o with
      | Name y yp =>
        simp only [ck, Bool.and_eq_true, decide_eq_true_eq] at k
        obtain ⟨k0, rfl, ⟨k1, k2⟩, k3⟩ := k
        exact d_fld (h.bnd k0) (h.var k1 k2 k3) rfl
      | _ => simp [ck] at k
    | _ => simp [ck] at k
  | .compf elt g i t own => fun x X Wx e h k => by
    refine snd_val k (by simp) (by simp) (by simp) (by simp) (by simp) (by simp) (by simp) ?_
    unfold ck at k
    split at k
    · rename_i elt' tg y yp n ap ifs scope pos
      split at k
      · rename_i os eos
        simp only [Bool.and_eq_true, decide_eq_true_eq] at k
        obtain ⟨⟨k0, rfl⟩, ⟨⟨⟨⟨k1, ⟨⟨v1, v2⟩, v3⟩⟩, k3⟩, k4⟩, k5⟩, k6⟩ := k
        have em := ownOf_map eos
        have ok : BlkOk X.N X.env.scope scope os := by rw [h.N, h.sc]; exact blkOk_by (calmB_1 k1)
        have := d_compf (Wx := Wx) (pos := pos) (ap := ap) (elt := elt') (ifs := ifs) (fe := evW cl gl elt) (ft := evT cl gl t) (g := g) (h.calm (calmB_2 k1)) (by rw [h.N]; exact h.nd) (h.bnd k0) (h.var (pos := yp) v1 v2 v3) ok (by
          intro i hi
          rw [em]
          have := List.all_eq_true.mp k4 i hi
          simpa using this)
          (fun s H C clo fp => (h.block s H scope C clo fp).pt k3) (fun s H C clo fp => (sndO t _ _ _ (h.block s H scope C clo fp)).2 k5) (fun s H C clo fp => (snd elt _ _ _ _ (h.block s H scope C clo fp) k6).1)
        rw [em] at this
        exact this
      · cases k
    · cases k
  | .compk elt g i t own => fun x X Wx e h k => by
    refine snd_val k (by simp) (by simp) (by simp) (by simp) (by simp) (by simp) (by simp) ?_
    unfold ck at k
    split at k
    · rename_i elt' tg y yp ifs scope pos
      split at k
      · rename_i os eos
        simp only [Bool.and_eq_true, decide_eq_true_eq] at k
        obtain ⟨⟨⟨⟨⟨k1, ⟨⟨v1, v2⟩, v3⟩⟩, k3⟩, k4⟩, k5⟩, k6⟩ := k
        have em := ownOf_map eos
        have ok : BlkOk X.N X.env.scope scope os := by rw [h.N, h.sc]; exact blkOk_by (calmB_1 k1)
        have := d_compk (Wx := Wx) (pos := pos) (elt := elt') (ifs := ifs) (fe := evW cl gl elt) (ft := evT cl gl t) (g := g) (h.calm (calmB_2 k1)) (by rw [h.N]; exact h.nd) (h.var (pos := yp) v1 v2 v3) ok (by
          intro i hi
          rw [em]
          have := List.all_eq_true.mp k4 i hi
          simpa using this)
          (fun s H C clo fp => (h.block s H scope C clo fp).pt k3) (fun s H C clo fp => (sndO t _ _ _ (h.block s H scope C clo fp)).2 k5) (fun s H C clo fp => (snd elt _ _ _ _ (h.block s H scope C clo fp) k6).1)
        rw [em] at this
        exact this
      · cases k
    · cases k
  | .compx elt g it t own => fun x X Wx e h k => by
    refine snd_val k (by simp) (by simp) (by simp) (by simp) (by simp) (by simp) (by simp) ?_
    unfold ck at k
    split at k
    · rename_i elt' tg iter ifs scope pos
      split at k
      · rename_i os eos
        simp only [Bool.and_eq_true] at k
        obtain ⟨⟨⟨⟨⟨⟨k1, k2⟩, k3⟩, k4⟩, k5⟩, k6⟩, k7⟩ := k
        have em := ownOf_map eos
        have ok : BlkOk X.N X.env.scope scope os := by rw [h.N, h.sc]; exact blkOk_by (calmB_1 k1)
        obtain ⟨p1, p2⟩ := sndI it _ _ _ _ _ h k2
        obtain ⟨tk, fr⟩ := h.df (by simpa using k7)
        have := d_compx (Wx := Wx) (pos := pos) (elt := elt') (ifs := ifs) (fe := evW cl gl elt) (ft := evT cl gl t) (g := g) fr.1 fr.2 tk (h.calm (calmB_2 k1)) (by rw [h.N]; exact h.nd) p1 ok (by
          intro i hi
          rw [em]
          have := List.all_eq_true.mp k4 i hi
          simpa using this)
          (fun s H C clo fp xe => (h.blx W0 s H scope C clo fp xe (fun σ pins H s e s' _ c => by
            obtain ⟨_, _, _, _, _, _, _, _, _, _, _, _, q⟩ := c
            exact q.elim)).pt k3) (fun Wb s H C clo fp xe pa => (sndO t _ _ _ (h.blx Wb s H scope C clo fp xe pa)).2 k5) (fun Wb s H C clo fp xe pa => (snd elt _ _ _ _ (h.blx Wb s H scope C clo fp xe pa) k6).1) p2
        rw [em] at this
        exact this
      · cases k
    · cases k
  | .call f es => fun x X Wx e h k => by
    refine snd_val k (by simp) (by simp) (by simp) (by simp) (by simp) (by simp) (by simp) ?_
    unfold ck at k
    split at k
    · rename_i y p l pos
      simp only [Bool.and_eq_true, decide_eq_true_eq] at k
      obtain ⟨⟨⟨⟨rfl, ok⟩, g⟩, m⟩, ka⟩ := k
      obtain ⟨kk, fa, fd, ps, e1, e2, e3, e4, e5⟩ := h.fns y m
      cases l with
      | nil =>
        have ee : evW cl gl (.call y es) = fun _ => match cl y [] with
          | .ok w => .ok w
          | _ => .stuck := by
          cases es with
          | nil => rfl
          | cons c r => simp [ckAs] at ka
        rw [ee]
        exact d_call0 e5 e4 (h.gl_ g) e1 e2 e3 (okName_dbg ok).1
      | cons e es' =>
        have ia := (sndA es _ _ _ _ h ka).1
        have na := nst_all ka
        have d := d_call (pos := pos) (p := p) e5 e4 (h.gl_ g) e1 e2 e3 h.pa ia (okName_dbg ok).1 (starEach_cons (na e List.mem_cons_self)) (star_any fun e' he' => na e' (List.mem_cons_of_mem _ he'))
        have ee : evW cl gl (.call y es) = fun ρ => (evBs cl gl es ρ).bind fun ab => lentR ab.2 (cl y ab.1) := by
          funext ρ
          show (evBs cl gl es ρ).bind (fun ab => callEv cl y ab) = _
          cases es with
          | nil => simp [ckAs] at ka
          | cons c r =>
            show ((bor c ρ (evW cl gl c ρ)).bind fun d => (evBs cl gl r ρ).map fun ds => (d :: ds.1, lent c ρ || ds.2)).bind _ = ((bor c ρ (evW cl gl c ρ)).bind fun d => (evBs cl gl r ρ).map fun ds => (d :: ds.1, lent c ρ || ds.2)).bind _
            cases bor c ρ (evW cl gl c ρ) with
            | ok d => cases evBs cl gl r ρ <;> rfl
            | exc c => rfl
            | stuck => rfl
        rw [ee]
        exact d
    · cases k
  | .bi b es => fun x X Wx e h k => by
    refine snd_val k (by simp) (by simp) (by simp) (by simp) (by simp) (by simp) (by simp) ?_
    unfold ck at k
    split at k
    · rename_i y p l pos
      split at k
      · rename_i n kd eb
        simp only [Bool.and_eq_true, decide_eq_true_eq] at k
        obtain ⟨⟨⟨rfl, g⟩, ne⟩, ka⟩ := k
        obtain ⟨e0, es', rfl⟩ := list_ne ne
        have ia := (sndA es _ _ _ _ h ka).1
        have na := nst_all ka
        have r := bi_rule h (h.calm (calmB_2 g)) eb
        have h1 := starEach_cons (env := X.env) (es := es') (na e0 List.mem_cons_self)
        have h2 := star_any (env := X.env) (pos := pos) (es := es') fun e' he' => na e' (List.mem_cons_of_mem _ he')
        cases kd with
        | fn id => exact d_bi (r := fun _ _ _ => True) (nox_bi b) r.2.2.2.1 (h.gl_ (calmB_1 g)) r.1 r.2.2.2.2 ia r.2.1 r.2.2.1 h1 h2
        | ty T => exact d_biT (r := fun _ _ _ => True) (nox_bi b) r.2.2.2.1 (h.gl_ (calmB_1 g)) r.1 r.2.2.2.2 ia r.2.1 r.2.2.1 h1 h2
      · split at k
        · rename_i z p2 a q hh
          simp only [Bool.and_eq_true, decide_eq_true_eq] at k
          obtain ⟨⟨⟨⟨rfl, g⟩, rfl⟩, g2⟩, ka⟩ := k
          match es, ka with
          | .nil, ka => simp [ckAs] at ka
          | .cons c1 (.cons _ _), ka => simp [ckAs] at ka
          | .cons c1 .nil, ka =>
            simp only [ckAs, Bool.and_eq_true] at ka
            obtain ⟨⟨na, k1⟩, _⟩ := ka
            have q' := d_sortset (X := X) (Wx := Wx) (pos := pos) (p := p) (p2 := p2) (q := q) (h.calm (calmB_2 g)) h.hu (h.gl_ (calmB_1 g)) (h.blt _ (by decide +kernel)) (h.gl_ g2) (h.blt _ (by decide +kernel)) (bor_ck h k1 (snd c1 _ _ _ _ h k1).1) na
            have ef : (fun ρ => (bor c1 ρ (evW cl gl c1 ρ)).bind fun u => sortedsetEv [u]) = evW cl gl (.bi .sortedset (.cons c1 .nil)) := funext fun ρ => by
              show _ = ((bor c1 ρ (evW cl gl c1 ρ)).bind fun d => (R.ok ([], false)).map fun ds => (d :: ds.1, lent c1 ρ || ds.2)).bind fun ab => sortedsetEv ab.1
              cases bor c1 ρ (evW cl gl c1 ρ) <;> rfl
            rw [ef] at q'
            exact q'
        · rename_i z p2 a q hh
          simp only [Bool.and_eq_true, decide_eq_true_eq] at k
          obtain ⟨⟨⟨⟨rfl, g⟩, rfl⟩, g2⟩, ka⟩ := k
          match es, ka with
          | .nil, ka => simp [ckAs] at ka
          | .cons c1 (.cons _ _), ka => simp [ckAs] at ka
          | .cons c1 .nil, ka =>
            simp only [ckAs, Bool.and_eq_true] at ka
            obtain ⟨⟨na, k1⟩, _⟩ := ka
            have q' := d_lenset (X := X) (Wx := Wx) (pos := pos) (p := p) (p2 := p2) (q := q) (h.calm (calmB_2 g)) (h.gl_ (calmB_1 g)) (h.blt _ (by decide +kernel)) (h.gl_ g2) (h.blt _ (by decide +kernel)) (bor_ck h k1 (snd c1 _ _ _ _ h k1).1) na
            have ef : (fun ρ => (bor c1 ρ (evW cl gl c1 ρ)).bind fun u => lensetEv [u]) = evW cl gl (.bi .lenset (.cons c1 .nil)) := funext fun ρ => by
              show _ = ((bor c1 ρ (evW cl gl c1 ρ)).bind fun d => (R.ok ([], false)).map fun ds => (d :: ds.1, lent c1 ρ || ds.2)).bind fun ab => lensetEv ab.1
              cases bor c1 ρ (evW cl gl c1 ρ) <;> rfl
            rw [ef] at q'
            exact q'
        · rename_i z p2 a q hh
          simp only [Bool.and_eq_true, decide_eq_true_eq] at k
          obtain ⟨⟨⟨⟨rfl, g⟩, rfl⟩, g2⟩, ka⟩ := k
          match es, ka with
          | .nil, ka => simp [ckAs] at ka
          | .cons c1 (.cons _ _), ka => simp [ckAs] at ka
          | .cons c1 .nil, ka =>
            simp only [ckAs, Bool.and_eq_true] at ka
            obtain ⟨⟨na, k1⟩, _⟩ := ka
            have q' := d_listrange1 (X := X) (Wx := Wx) (pos := pos) (p := p) (p2 := p2) (q := q) (h.calm (calmB_2 g)) (h.gl_ (calmB_1 g)) (h.blt _ (by decide +kernel)) (h.gl_ g2) (h.blt _ (by decide +kernel)) (bor_ck h k1 (snd c1 _ _ _ _ h k1).1) na
            have ef : (fun ρ => (bor c1 ρ (evW cl gl c1 ρ)).bind fun u => listrangeEv [u]) = evW cl gl (.bi .listrange (.cons c1 .nil)) := funext fun ρ => by
              show _ = ((bor c1 ρ (evW cl gl c1 ρ)).bind fun d => (R.ok ([], false)).map fun ds => (d :: ds.1, lent c1 ρ || ds.2)).bind fun ab => listrangeEv ab.1
              cases bor c1 ρ (evW cl gl c1 ρ) <;> rfl
            rw [ef] at q'
            exact q'
        · rename_i z p2 a b' q hh
          simp only [Bool.and_eq_true, decide_eq_true_eq] at k
          obtain ⟨⟨⟨⟨rfl, g⟩, rfl⟩, g2⟩, ka⟩ := k
          match es, ka with
          | .nil, ka => simp [ckAs] at ka
          | .cons c1 .nil, ka => simp [ckAs] at ka
          | .cons c1 (.cons c2 (.cons _ _)), ka => simp [ckAs] at ka
          | .cons c1 (.cons c2 .nil), ka =>
            simp only [ckAs, Bool.and_eq_true] at ka
            obtain ⟨⟨na, k1⟩, ⟨nb, k2⟩, _⟩ := ka
            have q' := d_listrange (X := X) (Wx := Wx) (pos := pos) (p := p) (p2 := p2) (q := q) (h.calm (calmB_2 g)) (h.gl_ (calmB_1 g)) (h.blt _ (by decide +kernel)) (h.gl_ g2) (h.blt _ (by decide +kernel)) (bor_ck h k1 (snd c1 _ _ _ _ h k1).1) (bor_ck h k2 (snd c2 _ _ _ _ h k2).1) na nb
            have ef : (fun ρ => (bor c1 ρ (evW cl gl c1 ρ)).bind fun u => (bor c2 ρ (evW cl gl c2 ρ)).bind fun v => listrangeEv [u, v]) = evW cl gl (.bi .listrange (.cons c1 (.cons c2 .nil))) := funext fun ρ => by
              show _ = ((bor c1 ρ (evW cl gl c1 ρ)).bind fun d => ((bor c2 ρ (evW cl gl c2 ρ)).bind fun d2 => (R.ok ([], false)).map fun ds => (d2 :: ds.1, lent c2 ρ || ds.2)).map fun ds => (d :: ds.1, lent c1 ρ || ds.2)).bind fun ab => listrangeEv ab.1
              cases bor c1 ρ (evW cl gl c1 ρ) <;> first | rfl | skip
              cases bor c2 ρ (evW cl gl c2 ρ) <;> rfl
            rw [ef] at q'
            exact q'
        · rename_i a n apos cpos hh
          simp only [Bool.and_eq_true, decide_eq_true_eq] at k
          obtain ⟨⟨⟨⟨rfl, g⟩, rfl⟩, ns, hl⟩, ka⟩ := k
          match es, ka with
          | .nil, ka => simp [ckAs] at ka
          | .cons c1 (.cons _ _), ka => simp [ckAs] at ka
          | .cons c1 .nil, ka =>
            simp only [ckAs, Bool.and_eq_true] at ka
            obtain ⟨⟨na, k1⟩, _⟩ := ka
            have q' := d_items (X := X) (Wx := Wx) (pos := pos) (p := p) (apos := apos) (cpos := cpos) (h.calm (calmB_2 g)) (h.gl_ (calmB_1 g)) (h.blt _ (by decide +kernel)) (bor_ck h k1 (snd c1 _ _ _ _ h k1).1) ns hl
            have ef : (fun ρ => (bor c1 ρ (evW cl gl c1 ρ)).bind fun u => listitemsEv [u]) = evW cl gl (.bi .listitems (.cons c1 .nil)) := funext fun ρ => by
              show _ = ((bor c1 ρ (evW cl gl c1 ρ)).bind fun d => (R.ok ([], false)).map fun ds => (d :: ds.1, lent c1 ρ || ds.2)).bind fun ab => listitemsEv ab.1
              cases bor c1 ρ (evW cl gl c1 ρ) <;> rfl
            rw [ef] at q'
            exact q'
        · cases k
    · rename_i y p l n d kp pos
      split at k
      · simp only [Bool.and_eq_true, decide_eq_true_eq] at k
        obtain ⟨⟨⟨⟨rfl, g⟩, nl⟩, dd⟩, ka⟩ := k
        have hd : ∃ z j p2, n = some (Str.ofString "default") ∧ d = .Constant (.int z) j p2 := by
          unfold isDflt at dd
          split at dd
          · rename_i n' z j p2
            exact ⟨z, j, p2, by rw [of_decide_eq_true dd], rfl⟩
          · cases dd
        obtain ⟨z, j, p2, rfl, rfl⟩ := hd
        match es, ka with
        | .nil, ka => simp [ckAs] at ka
        | .cons c1 .nil, ka => simp [ckAs] at ka
        | .cons c1 (.cons c2 (.cons _ _)), ka => simp [ckAs] at ka
        | .cons c1 (.cons c2 .nil), ka =>
          simp only [ckAs, Bool.and_eq_true] at ka
          obtain ⟨⟨_, k1⟩, ⟨_, k2⟩, _⟩ := ka
          have e2 : c2 = .k (.int z) := by
            cases c2 <;> first | (simp [ck] at k2; done) | skip
            rename_i dk
            cases dk <;> first | (simp [ck, ckK] at k2; done) | skip
            simp [ck, ckK] at k2
            rw [k2]
          subst e2
          have q := d_maxd (X := X) (Wx := Wx) (z := z) (j := j) (p := p) (p2 := p2) (pos := pos) (kp := kp) (h.calm (calmB_2 g)) (by have := h.hu; omega) (h.gl_ (calmB_1 g)) (h.blt _ (by decide +kernel)) (bor_ck h k1 (snd c1 _ _ _ _ h k1).1) nl
          have ef : (fun ρ => (bor c1 ρ (evW cl gl c1 ρ)).bind fun d => maxdEv [d, .int z]) = evW cl gl (.bi .maxd (.cons c1 (.cons (.k (.int z)) .nil))) := funext fun ρ => by
            show _ = ((bor c1 ρ (evW cl gl c1 ρ)).bind fun d => ((R.ok (D.int z)).bind fun d2 => (R.ok ([], false)).map fun ds => (d2 :: ds.1, _ || ds.2)).map fun ds => (d :: ds.1, lent c1 ρ || ds.2)).bind fun ab => maxdEv ab.1
            cases bor c1 ρ (evW cl gl c1 ρ) <;> rfl
          rw [ef] at q
          exact q
      · cases k
    · cases k
  | .me m r es => fun x X Wx e h k => by
    refine snd_val k (by simp) (by simp) (by simp) (by simp) (by simp) (by simp) (by simp) ?_
    unfold ck at k
    split at k
    · rename_i o n apos l cpos
      simp only [Bool.and_eq_true, decide_eq_true_eq] at k
      obtain ⟨⟨⟨⟨⟨⟨rfl, so⟩, kr⟩, ne⟩, hl⟩, ka⟩, hline⟩ := k
      obtain ⟨e0, es', rfl⟩ := list_ne ne
      have ia := (sndA es _ _ _ _ h ka).1
      have na := nst_all ka
      have h1 := starEach_cons (env := X.env) (es := es') (na e0 List.mem_cons_self)
      have h2 := star_any (env := X.env) (pos := cpos) (es := es') fun e' he' => na e' (List.mem_cons_of_mem _ he')
      have hfew : ((backTo cpos (starEach (e0 :: es') X.env)).all (fun x => !x.1) && (backToKw cpos (keywordEach [] X.env)).all (fun x => x.1.isSome)
        && decide ((e0 :: es').length + ([] : List Keyword).length + (if ([] : List Keyword).isEmpty then 0 else 1) < 30)) = true := by
        have h3 := star_any (env := X.env) (pos := cpos) (es := e0 :: es') na
        have h4 : (backTo cpos (starEach (e0 :: es') X.env)).all (fun x => !x.1) = true := by
          rw [List.all_eq_not_any_not]
          simpa using h3
        rw [h4]
        simp only [Bool.true_and, Bool.and_eq_true, decide_eq_true_eq]
        refine ⟨rfl, ?_⟩
        simp only [List.length_nil, List.isEmpty_nil, if_true]
        omega
      have ir := bor_ck h kr (snd r _ _ _ _ h kr).1
      cases m
      · exact d_me PySem.F.plainAttrs_list PySem.F.slot_list_index PySem.F.type_list_index me_index rfl ir ia so hline hfew h1 h2
      · exact d_me PySem.F.plainAttrs_list PySem.F.slot_list_count PySem.F.type_list_count me_count rfl ir ia so hline hfew h1 h2
      · exact d_me PySem.F.plainAttrs_str PySem.F.slot_str_join PySem.F.type_str_join me_join rfl ir ia so hline hfew h1 h2
      · exact d_me PySem.F.plainAttrs_str PySem.F.slot_str_split PySem.F.type_str_split me_split rfl ir ia so hline hfew h1 h2
      · exact d_me PySem.F.plainAttrs_str PySem.F.slot_str_partition PySem.F.type_str_partition me_part rfl ir ia so hline hfew h1 h2
      · exact d_me PySem.F.plainAttrs_dict PySem.F.slot_dict_get PySem.F.type_dict_get (me_get (by have := h.hu; omega)) rfl ir ia so hline hfew h1 h2
    · cases k
  | .isi a t => fun x X Wx e h k => by
    refine snd_val k (by simp) (by simp) (by simp) (by simp) (by simp) (by simp) (by simp) ?_
    unfold ck at k
    split at k
    · simp only [Bool.and_eq_true, decide_eq_true_eq] at k
      obtain ⟨⟨⟨⟨⟨rfl, g⟩, na⟩, ka⟩, rfl⟩, g2⟩ := k
      exact d_isi t (h.gl_ g) (h.blt _ (by decide +kernel)) (h.gl_ g2) (h.blt _ (by cases t <;> decide +kernel)) (bor_ck h ka (snd a _ _ _ _ h ka).1) na
    · cases k
  | .chain3 o1 o2 o3 a b c d => fun x X Wx e h k => by
    unfold ck at k
    split at k
    · rename_i a' o1' o2' o3' b' c' d' pos
      simp only [Bool.and_eq_true, decide_eq_true_eq] at k
      obtain ⟨⟨⟨⟨⟨⟨rfl, rfl⟩, rfl⟩, ka⟩, kb⟩, kc⟩, kd⟩ := k
      have ia := bor_ck h ka (snd a _ _ _ _ h ka).1
      have ib := bor_ck h kb (snd b _ _ _ _ h kb).1
      have ic := bor_ck h kc (snd c _ _ _ _ h kc).1
      have id' := bor_ck h kd (snd d _ _ _ _ h kd).1
      have hm : lastMarks [o1, o2, o3] [b', c', d'] = false := no_set (op := o3) (nst_ck d kd)
      have hu : X.A.units + 64 < cLine := by have := h.hu; omega
      exact ⟨d_chain3 hu o1 o2 o3 hm ia ib ic id', fun _ => t_chain3 hu o1 o2 o3 hm ia ib ic id', fun _ _ _ _ ee => by cases ee⟩
    · cases k
  | .fnv f => fun x X Wx e h k => by
    refine snd_val k (by simp) (by simp) (by simp) (by simp) (by simp) (by simp) (by simp) ?_
    unfold ck at k
    split at k
    · simp only [Bool.and_eq_true, decide_eq_true_eq] at k
      obtain ⟨⟨⟨rfl, ok⟩, g⟩, m⟩ := k
      obtain ⟨kk, fa, fd, ps, e1, e2, e3, e4, e5⟩ := h.fns _ m
      exact d_fnv (h.gl_ g) e1 (okName_dbg ok).1
    · cases k
  | .callv fe fs es => fun x X Wx e h k => by
    refine snd_val k (by simp) (by simp) (by simp) (by simp) (by simp) (by simp) (by simp) ?_
    unfold ck at k
    split at k
    · rename_i l i p args pos
      simp only [Bool.and_eq_true, List.all_eq_true, decide_eq_true_eq] at k
      obtain ⟨kf, ⟨⟨ne, m⟩, ka⟩⟩ := k
      obtain ⟨e0, es', rfl⟩ := list_ne ne
      have ia := (sndA es _ _ _ _ h ka).1
      have na := nst_all ka
      have d := d_callv (pos := pos) (fl := fs) (cl := cl) (bor_ck h kf (snd fe _ _ _ _ h kf).1) (fun x hx => h.fns x (m x hx)) h.pa ia rfl (starEach_cons (na e0 List.mem_cons_self)) (star_any fun e' he' => na e' (List.mem_cons_of_mem _ he'))
      have ee : evW cl gl (.callv fe fs es) = fun ρ => (bor fe ρ (evW cl gl fe ρ)).bind fun d => callvEv fs (fun x => (evBs cl gl es ρ).bind fun ab => lentR ab.2 (cl x ab.1)) d := by
        funext ρ
        show (bor fe ρ (evW cl gl fe ρ)).bind (fun d => callvEv fs (fun x => (evBs cl gl es ρ).bind fun ab => callEv cl x ab) d) = _
        congr 1
        funext d
        congr 1
        funext x
        cases es with
        | nil => simp [ckAs] at ka
        | cons c r =>
          show ((bor c ρ (evW cl gl c ρ)).bind fun d => (evBs cl gl r ρ).map fun ds => (d :: ds.1, lent c ρ || ds.2)).bind _ = ((bor c ρ (evW cl gl c ρ)).bind fun d => (evBs cl gl r ρ).map fun ds => (d :: ds.1, lent c ρ || ds.2)).bind _
          cases bor c ρ (evW cl gl c ρ) with
          | ok d => cases evBs cl gl r ρ <;> rfl
          | exc c => rfl
          | stuck => rfl
      rw [ee]
      exact d
    · cases k
  | .rev a => fun x X Wx e h k => by
    refine snd_val k (by simp) (by simp) (by simp) (by simp) (by simp) (by simp) (by simp) ?_
    unfold ck at k
    split at k
    · exact d_rev (bor_ck h k (snd a _ _ _ _ h k).1)
    · cases k
  | .isx a t cs => fun x X Wx e h k => by
    refine snd_val k (by simp) (by simp) (by simp) (by simp) (by simp) (by simp) (by simp) ?_
    unfold ck at k
    split at k
    · rename_i y p1 a' z p2 p3
      simp only [Bool.and_eq_true, Bool.or_eq_true, decide_eq_true_eq, List.all_eq_true] at k
      obtain ⟨⟨⟨⟨⟨⟨⟨⟨rfl, g⟩, na⟩, ka⟩, rfl⟩, ok⟩, g2⟩, kc⟩, kt⟩ := k
      have ia := bor_ck h ka (snd a _ _ _ _ h ka).1
      by_cases tv : z = "ValueError"
      · subst tv
        refine d_isx (c := .ty "ValueError") (cv := .type "ValueError") (h.gl_ g) (h.blt _ (by decide +kernel)) (fun u r => r) (fun c hc C hm => ?_) (pe_bltn (h.gl_ g2) (h.blt _ (by decide +kernel)) (u := .type "ValueError") (by decide +kernel) rfl (by decide +kernel) (by decide +kernel)) ia na
        obtain ⟨e1, e2, _⟩ := h.exi c (kc c hc) C hm
        exact ⟨e1, by rw [e2]; rfl⟩
      · have kt := kt.resolve_left tv
        obtain ⟨T, eT⟩ := h.cls z kt
        refine d_isx (c := .ref T) (cv := .ref T) (h.gl_ g) (h.blt _ (by decide +kernel)) (fun u r => r) (fun c hc C hm => ?_) (pe_glob (h.gl_ g2) eT.at_ rfl (okName_dbg ok).1) ia na
        obtain ⟨e1, _, e3, _⟩ := h.exi c (kc c hc) C hm
        exact ⟨e1, by rw [e3 z kt T eT.at_, decide_eq_false tv, Bool.false_or]⟩
    · cases k
theorem sndO : ∀ c : Co, SndO cl gl c
  | .no => fun x X Wx h => by
    refine ⟨fun {e} k => ?_, fun {e} k => ?_⟩
    · cases e with
      | none => exact o_none
      | some e => simp [ckO] at k
    · cases e with
      | nil => exact ⟨fun pins s σ H Q I ⟨F0, H0, F, ρ, R, o⟩ => pts_nil.run pins s σ H Q I (o F H (Ext.refl R.fh))⟩
      | cons a b => simp [ckT] at k
  | .so c => fun x X Wx h => by
    refine ⟨fun {e} k => ?_, fun {e} k => ?_⟩
    · cases e with
      | none => simp [ckO] at k
      | some e =>
        have k : ck x c e = true := by simpa [ckO] using k
        exact o_some (bor_ck h k (snd c _ _ _ _ h k).1)
    · unfold ckT at k
      split at k
      · simp only [Bool.and_eq_true] at k
        exact pts_one ((snd c _ _ _ _ h k.2).2.1 k.1)
      · cases k
theorem sndA : ∀ c : Cs, SndA cl gl c
  | .nil => fun x X Wx l h k => by
    cases l with
    | nil => exact ⟨a_nil, v_nil⟩
    | cons a b => simp [ckAs] at k
  | .cons c r => fun x X Wx l h k => by
    cases l with
    | nil => simp [ckAs] at k
    | cons a b =>
      simp only [ckAs, Bool.and_eq_true] at k
      have ic := (snd c _ _ _ _ h k.1.2).1
      have ir := sndA r _ _ _ _ h k.2
      exact ⟨a_cons (starEach_cons k.1.1) (bor_ck h k.1.2 ic) ir.1, v_cons (starEach_cons k.1.1) ic ir.2⟩
theorem sndI : ∀ c : It, SndI cl gl c
  | .seq c => fun x X Wx tg e h k => by
    simp only [ckIt, Bool.and_eq_true] at k
    exact ⟨i_seq (bor_ck h k.2 (snd c _ _ _ _ h k.2).1), fun v => no_fold k.1 v⟩
  | .rng1 a => fun x X Wx tg e h k => by
    unfold ckIt at k
    split at k
    · simp only [Bool.and_eq_true, decide_eq_true_eq] at k
      obtain ⟨⟨⟨rfl, g⟩, n1⟩, k1⟩ := k
      exact ⟨i_rng1 (h.gl_ g) (h.blt _ (by decide +kernel)) (starEach_cons n1) (bor_ck h k1 (snd a _ _ _ _ h k1).1), fun v => rfl⟩
    · cases k
  | .rng2 a b => fun x X Wx tg e h k => by
    unfold ckIt at k
    split at k
    · simp only [Bool.and_eq_true, decide_eq_true_eq] at k
      obtain ⟨⟨⟨⟨⟨rfl, g⟩, n1⟩, n2⟩, k1⟩, k2⟩ := k
      have s2 := starEach_cons (env := X.env) (es := []) n2
      exact ⟨i_rng2 (h.gl_ g) (h.blt _ (by decide +kernel)) (by rw [starEach_cons n1, s2]; rfl) s2 (bor_ck h k1 (snd a _ _ _ _ h k1).1) (bor_ck h k2 (snd b _ _ _ _ h k2).1), fun v => rfl⟩
    · cases k
  | .zip a b => fun x X Wx tg e h k => by
    unfold ckIt at k
    split at k
    · simp only [Bool.and_eq_true, decide_eq_true_eq] at k
      obtain ⟨⟨⟨⟨⟨rfl, g⟩, n1⟩, n2⟩, k1⟩, k2⟩ := k
      have s2 := starEach_cons (env := X.env) (es := []) n2
      exact ⟨i_zip (h.gl_ g) (h.blt _ (by decide +kernel)) (by rw [starEach_cons n1, s2]; rfl) s2 (bor_ck h k1 (snd a _ _ _ _ h k1).1) (bor_ck h k2 (snd b _ _ _ _ h k2).1), fun v => rfl⟩
    · cases k
  | .enum a => fun x X Wx tg e h k => by
    unfold ckIt at k
    split at k
    · simp only [Bool.and_eq_true, decide_eq_true_eq] at k
      obtain ⟨⟨⟨rfl, g⟩, n1⟩, k1⟩ := k
      have s1 := starEach_cons (env := X.env) (es := []) n1
      exact ⟨i_enum (h.gl_ g) (h.blt _ (by decide +kernel)) s1 (bor_ck h k1 (snd a _ _ _ _ h k1).1), fun v => rfl⟩
    · cases k
end
end
end G81
end
section
set_option Elab.async false
set_option linter.all false
set_option maxHeartbeats 4000000
namespace G81
open PySem PySem.Spec L2
def tS (G : Gx) (Wx : WX) (f : En → Fl) : TS := fun D σ H => ∃ F0 H0 F ρ, Rel G F0 H0 ρ F σ H ∧
  match f ρ with
  | .nx ρ1 => ∀ F' σ' H', Rel G F0 H0 ρ1 F' σ' H' → Same F F' → D.nx σ' H'
  | .bk ρ1 => ∀ F' σ' H', Rel G F0 H0 ρ1 F' σ' H' → Same F F' → D.bk σ' H'
  | .ct ρ1 => ∀ F' σ' H', Rel G F0 H0 ρ1 F' σ' H' → Same F F' → D.ct σ' H'
  | .rt w => ∀ F' H' v, Ext F0.f H0 F' H' → WRep G H0 F' H' w v → D.rt v H'
  | .exc c ρ1 => ∀ F' σ' H' a, Rel G F0 H0 ρ1 F' σ' H' → Same F F' → G.mg c = some (.ref a) → Wx (.ref a) none σ' H'
  | .stuck => False
/-- what a flow promises, from the heap F on -/
def Fin (G : Gx) (Wx : WX) (F0 : Fr) (H0 F : Hp) (D : Ends) (f : Fl) : Prop :=
  match f with
  | .nx ρ1 => ∀ F' σ' H', Rel G F0 H0 ρ1 F' σ' H' → Same F F' → D.nx σ' H'
  | .bk ρ1 => ∀ F' σ' H', Rel G F0 H0 ρ1 F' σ' H' → Same F F' → D.bk σ' H'
  | .ct ρ1 => ∀ F' σ' H', Rel G F0 H0 ρ1 F' σ' H' → Same F F' → D.ct σ' H'
  | .rt w => ∀ F' H' v, Ext F0.f H0 F' H' → WRep G H0 F' H' w v → D.rt v H'
  | .exc c ρ1 => ∀ F' σ' H' a, Rel G F0 H0 ρ1 F' σ' H' → Same F F' → G.mg c = some (.ref a) → Wx (.ref a) none σ' H'
  | .stuck => False
theorem tS_iff {G : Gx} {Wx : WX} {f : En → Fl} {D : Ends} {σ : St} {H : Hp} : tS G Wx f D σ H ↔ ∃ F0 H0 F ρ, Rel G F0 H0 ρ F σ H ∧ Fin G Wx F0 H0 F D (f ρ) := Iff.rfl
section
variable {G : Gx} {Wx : WX} {F0 : Fr} {H0 F F1 : Hp} {D : Ends} {f : Fl}
theorem Fin.mono (h : Fin G Wx F0 H0 F D f) (s : Same F F1) : Fin G Wx F0 H0 F1 D f := by
  cases f with
  | nx ρ => exact fun F' σ' H' r t => h F' σ' H' r (s.trans t)
  | bk ρ => exact fun F' σ' H' r t => h F' σ' H' r (s.trans t)
  | ct ρ => exact fun F' σ' H' r t => h F' σ' H' r (s.trans t)
  | rt w => exact h
  | exc c ρ => exact fun F' σ' H' a r t e => h F' σ' H' a r (s.trans t) e
  | stuck => exact h
theorem Fin.out {α : Type} {r : R α} {ρ : En} {k : α → Fl} (h : Fin G Wx F0 H0 F D (outR r ρ k)) {H : Hp} {σ : St} (R : Rel G F0 H0 ρ F σ H) : Out r (fun a => Fin G Wx F0 H0 F D (k a)) (fun c => Thr G Wx c F σ H) := by
  cases r with
  | ok a => exact h
  | exc c => exact fun F' H' a e E => h F' σ H' a (R.ext E) E.ff e
  | stuck => exact h
theorem Rel.outW {H H' F' : Hp} {ρ : En} {σ : St} {w : W} {v : V} (R : Rel G F0 H0 ρ F σ H) (E : Ext F H F' H') (h : WRep G H F' H' w v) : Ext F0.f H0 F' H' ∧ WRep G H0 F' H' w v :=
  ⟨R.out.trans E, h.back R.h0⟩
end
section
variable {X : Cx} {Wx : WX} {e tg : Expr} {pos : Pos} {ge : En → R W}
theorem s_asg {g : Pt} (nt : nst tg = true) (he : PE X e (tD (gx X) Wx ge)) (hg : PG X tg (gPt X.K g)) (hs : swapsWithSole [tg] e pos.line X.env = pure false) (hw : swappedStores [tg] e X.env = pure none) :
    PS X (.Assign [tg] e pos) (tS (gx X) Wx fun ρ => outR (ge ρ) ρ fun w => outO (asgn g w.toD ρ)) :=
  PS_imp (ps_asg he hg hs hw (h1 := by cases tg <;> first | rfl | cases nt)) fun D σ H h => by
    obtain ⟨F0, H0, F, ρ, R, h⟩ := tS_iff.mp h
    refine ⟨F0, H0, F, ρ, R, (Fin.out h R).imp (fun w _ k F' H' v E wr => ?_) fun _ h => h⟩
    obtain ⟨F2, E2, _, rv⟩ := E.freeze wr
    cases ea : asgn g w.toD ρ with
    | none => rw [ea] at k; exact k.elim
    | some ρ1 =>
      rw [ea] at k
      exact pt_ok (G := gx X) ea rv (R.ext E2) fun σ1 R1 _ => k F2 σ1 H' R1 E2.ff
/-- x = e, e's own reading t -/
theorem s_one {i : Nat} {t : TE} (hi : ∀ σ H Q, tD (gx X) Wx ge σ H Q → t σ H Q) (h : PS X (.Assign [tg] e pos) (tAsg t (gName i))) :
    PS X (.Assign [tg] e pos) (tS (gx X) Wx fun ρ => outR (ge ρ) ρ fun w => outO (asgn (.one i) w.toD ρ)) :=
  PS_imp h fun D σ H h => by
    obtain ⟨F0, H0, F, ρ, R, h⟩ := tS_iff.mp h
    refine hi _ _ _ ⟨F0, H0, F, ρ, R, (Fin.out h R).imp (fun w _ k F' H' v E wr => ?_) fun _ h => h⟩
    obtain ⟨F2, E2, _, rv⟩ := E.freeze wr
    exact k F2 (σ.set i (some v)) H' ((R.ext E2).set rv) E2.ff
/-- x = e, what is new being x's own -/
theorem s_keep {i : Nat} {t : TE} (hi : ∀ σ H Q, tD (gx X) Wx ge σ H Q → t σ H Q) (h : PS X (.Assign [tg] e pos) (tAsg t (gName i))) :
    PS X (.Assign [tg] e pos) (tS (gx X) Wx fun ρ => outR (ge ρ) ρ fun w => match ownOf w with
      | some s => .nx (ρ.set i s)
      | none => .stuck) :=
  PS_imp h fun D σ H h => by
    obtain ⟨F0, H0, F, ρ, R, h⟩ := tS_iff.mp h
    refine hi _ _ _ ⟨F0, H0, F, ρ, R, (Fin.out h R).imp (fun w _ k F' H' v E wr => ?_) fun _ h => h⟩
    cases eo : ownOf w with
    | none => rw [eo] at k; exact k.elim
    | some s =>
      rw [eo] at k
      exact k F' (σ.set i (some v)) H' (R.setOwn E eo wr) E.ff
theorem own_list {F0 : Fr} {H0 F H : Hp} {ρ : En} {σ : St} (R : Rel (gx X) F0 H0 ρ F σ H) {i : Nat} {ds : List D} (e : ρ.getD i .no = .ol ds) :
    ∃ p vs, ρ[i]? = some (.ol ds) ∧ σ[i]? = some (some (.ref p)) ∧ H0 p = none ∧ F p = none ∧ H p = some (.lst vs) ∧ Reps (gx X) F ds vs := by
  have q := getD_of e (by intro z; cases z)
  obtain ⟨p, vs, h⟩ := R.ol i ds q
  exact ⟨p, vs, q, h⟩
/-- the list of a slot gets what is behind it -/
theorem grown {F0 : Fr} {H0 F H F2 H2 : Hp} {ρ : En} {σ : St} {i : Nat} {ds es : List D} {vs ws : List V} {p : Addr} (R : Rel (gx X) F0 H0 ρ F σ H) (E : Ext F H F2 H2) (q : ρ[i]? = some (.ol ds)) (qs : σ[i]? = some (some (.ref p)))
    (r : Reps (gx X) F ds vs) (r2 : Reps (gx X) F2 es ws) : Rel (gx X) F0 H0 (ρ.set i (.ol (ds ++ es))) F2 σ (upd H2 p (.lst (vs ++ ws))) :=
  (R.ext E).change q rfl qs (fun ds' e => by cases e; exact ⟨_, rfl, (r.mono E.ff).append r2⟩) (fun ds' e => by cases e) rfl
theorem s_app {i : Nat} {y : Str} {a : Expr} {p apos cpos : Pos} (hv : PE X (.Name y p) (tVar i)) (ha : PE X a (tD (gx X) Wx ge)) (na : nst a = true) (hl : (apos.endLine == cpos.line) = true) :
    PS X (.Expr (.Call (.Attribute (.Name y p) "append" apos) [a] [] cpos) pos) (tS (gx X) Wx fun ρ => appOwn ρ i (ge ρ)) :=
  PS_imp (ps_expr (pe_bm PySem.F.plainAttrs_list PySem.F.slot_list_append PySem.F.type_list_append mt_append hv (pa_cons ha pa_nil (starEach_cons na)) rfl (by rw [starEach_cons na]; rfl) hl (starEach_cons na) rfl) rfl) fun D σ H h => by
    obtain ⟨F0, H0, F, ρ, R, h⟩ := tS_iff.mp h
    unfold appOwn at h
    split at h
    · rename_i ds eds
      obtain ⟨l, vs, q, qs, _, fl, hp, r⟩ := own_list R eds
      refine ⟨.ref l, qs, .inl ⟨rfl, vs, .inl (.inl hp)⟩, F0, H0, F, ρ, R, (Fin.out h R).imp (fun w _ k F' H' v E wr => ?_) fun _ h => h⟩
      split at k
      · rename_i hs
        obtain ⟨F2, E2, _, rv⟩ := E.freeze wr
        refine ⟨l, vs, v, rfl, rfl, E.hh _ _ hp, ?_, k F2 σ _ (grown R E2 q qs r (.one rv)) E2.ff⟩
        rw [r.length]
        have h2 : (SIZE : Nat) < sizeLine := by decide
        omega
      · exact k.elim
    · exact h.elim
/-- extend by any list that stands -/
def rExtR : V → List V → Hp → VK → Prop := fun x vs H Q => ∃ l b xs zs, (x = .ref l ∧ vs = [.ref b]) ∧ (H l = some (.lst xs) ∧ Rd H b (.lst zs)) ∧ xs.length + zs.length ≤ sizeLine ∧ Q .non (upd H l (.lst (xs ++ zs)))
theorem mt_extR : MtM X "list.extend" rExtR := by
  intro pins s σ H x vs v us Q I rx rv h
  obtain ⟨l, b, xs, zs, ⟨rfl, rfl⟩, ⟨hl, hb⟩, hz, q⟩ := h
  cases rx
  obtain ⟨u, rfl, ru⟩ := rv.one
  cases ru
  obtain ⟨z1, i1, n1, r1, m1, e1⟩ := I.lstM hl
  obtain ⟨z2, i2, n2, r2, e2⟩ := hb.ok I.hok
  have m2 := r2.length
  have sz : i1.toArray.size + i2.toArray.size ≤ sizeLine := by rw [List.size_toArray, List.size_toArray, ← m2, ← m1]; exact hz
  have no : ¬ (!i1.toArray.isEmpty && Builtin.List.listTooLong (i1.toArray.size + i2.toArray.size)) = true := by
    rw [notLongL sz, Bool.and_false]
    exact fun w => nomatch w
  refine call_meets PySem.F.slot_list_extend ⟨_, e1, rfl⟩ PySem.F.entry_list_extend (PySem.F.args_list_extend_2 _ _) (AutoSeq1.list_extend_list_list_0 l i1.toArray n1 b i2.toArray n2 no (by rw [List.size_toArray, ← m1]; exact z1) (by have z := sz; rw [List.size_toArray] at z; omega)) ⟨e1, e2, ?_⟩
  exact ⟨.non, _, I.lset (its' := i1 ++ i2) hl e1 (by simp) (r1.append r2) (by rw [List.length_append]; omega), rfl, q⟩
theorem s_ext {i : Nat} {y : Str} {a : Expr} {p apos cpos : Pos} (hv : PE X (.Name y p) (tVar i)) (ha : PE X a (tD (gx X) Wx ge)) (na : nst a = true) (hl : (apos.endLine == cpos.line) = true) :
    PS X (.Expr (.Call (.Attribute (.Name y p) "extend" apos) [a] [] cpos) pos) (tS (gx X) Wx fun ρ => extOwn ρ i (ge ρ)) :=
  PS_imp (ps_expr (pe_bm PySem.F.plainAttrs_list PySem.F.slot_list_extend PySem.F.type_list_extend mt_extR hv (pa_cons ha pa_nil (starEach_cons na)) rfl (by rw [starEach_cons na]; rfl) hl (starEach_cons na) rfl) rfl) fun D σ H h => by
    obtain ⟨F0, H0, F, ρ, R, h⟩ := tS_iff.mp h
    unfold extOwn at h
    split at h
    · rename_i ds eds
      obtain ⟨l, vs, q, qs, _, fl, hp, r⟩ := own_list R eds
      refine ⟨.ref l, qs, .inl ⟨rfl, vs, .inl (.inl hp)⟩, F0, H0, F, ρ, R, (Fin.out h R).imp (fun w _ k F' H' v E wr => ?_) fun _ h => h⟩
      cases w with
      | fl es =>
        dsimp only at k
        split at k
        · rename_i hs
          obtain ⟨b, ws, rfl, nb, nfb, hb, rs⟩ := wr
          refine ⟨l, b, vs, ws, ⟨rfl, rfl⟩, ⟨E.hh _ _ hp, .inl hb⟩, ?_, k F' σ _ (grown R E q qs r rs) E.ff⟩
          rw [r.length, rs.length]
          exact sizes hs
        · exact k.elim
      | d d =>
        cases d with
        | lst es =>
          dsimp only at k
          split at k
          · rename_i hs
            obtain ⟨b, ws, rfl, hb, rs⟩ := wr
            refine ⟨l, b, vs, ws, ⟨rfl, rfl⟩, ⟨E.hh _ _ hp, rd_mono E.fh hb⟩, ?_, k F' σ _ (grown R E q qs r rs) E.ff⟩
            rw [r.length, rs.length]
            exact sizes hs
          · exact k.elim
        | _ => exact (show False from k).elim
      | _ => exact (show False from k).elim
    · exact h.elim
theorem s_ins {i : Nat} {y : Str} {kx a : Expr} {p apos cpos : Pos} {gk : En → R W} (hv : PE X (.Name y p) (tVar i)) (hk : PE X kx (tD (gx X) Wx gk)) (ha : PE X a (tD (gx X) Wx ge)) (nk : nst kx = true) (na : nst a = true) (hl : (apos.endLine == cpos.line) = true) :
    PS X (.Expr (.Call (.Attribute (.Name y p) "insert" apos) [kx, a] [] cpos) pos) (tS (gx X) Wx fun ρ => insOwn ρ i (gk ρ) (ge ρ)) :=
  PS_imp (ps_expr (pe_bm PySem.F.plainAttrs_list PySem.F.slot_list_insert PySem.F.type_list_insert mt_insert hv (pa_cons hk (pa_cons ha pa_nil (starEach_cons na)) (starEach_cons nk)) rfl (by rw [starEach_cons nk, starEach_cons na]; rfl) hl (starEach_cons nk) (by rw [starEach_cons na]; rfl)) rfl) fun D σ H h => by
    obtain ⟨F0, H0, F, ρ, R, h⟩ := tS_iff.mp h
    unfold insOwn at h
    split at h
    · rename_i ds eds
      obtain ⟨l, vs, q, qs, _, fl, hp, r⟩ := own_list R eds
      refine ⟨.ref l, qs, .inl ⟨rfl, vs, .inl (.inl hp)⟩, F0, H0, F, ρ, R, (Fin.out h R).imp (fun u _ k F1 H1 z E wz => ?_) fun _ h => h⟩
      refine ⟨F0, H0, F1, ρ, R.ext E, (Fin.out (Fin.mono k E.ff) (R.ext E)).imp (fun w _ k F' H' v E2 wr => ?_) fun _ h => h⟩
      cases u with
      | d du =>
        cases du with
        | int j =>
          have k : Fin (gx X) Wx F0 H0 F1 D (if 0 ≤ j ∧ j < 1000000 ∧ ds.length < SIZE then Fl.nx (ρ.set i (.ol (ds.take j.toNat ++ [w.toD] ++ ds.drop j.toNat))) else .stuck) := k
          split at k
          · rename_i hs
            have ez : z = .int j := wz
            subst ez
            obtain ⟨F2, E3, _, rv⟩ := E2.freeze wr
            have r' := (r.mono E.ff).mono E3.ff
            refine ⟨l, vs, j, v, rfl, rfl, E3.hh _ _ (E.hh _ _ hp), ?_, hs.1, ?_, k F2 σ _ (((R.ext E).ext E3).change q rfl qs (fun ds' e => by cases e; exact ⟨_, rfl, ((r'.take _).append (.one rv)).append (r'.drop _)⟩) (fun ds' e => by cases e) rfl) E3.ff⟩
            · rw [r.length]
              have h2 : (SIZE : Nat) < sizeLine := by decide
              omega
            · have := hs.2.1
              omega
          · exact (show False from k).elim
        | _ => exact (show False from k).elim
      | _ => exact (show False from k).elim
    · exact h.elim
theorem s_dpop {i : Nat} {y : Str} {kx : Expr} {p apos cpos : Pos} {gk : En → R W} (hv : PE X (.Name y p) (tVar i)) (hk : PE X kx (tD (gx X) Wx gk)) (nk : nst kx = true) (hl : (apos.endLine == cpos.line) = true) :
    PS X (.Expr (.Call (.Attribute (.Name y p) "pop" apos) [kx] [] cpos) pos) (tS (gx X) Wx fun ρ => popOwn ρ i (gk ρ)) :=
  PS_imp (ps_expr (pe_dpop1 hv hk ⟨rfl, by rw [starEach_cons nk]; rfl, hl, by rw [starEach_cons nk]; rfl⟩) rfl) fun D σ H h => by
    obtain ⟨F0, H0, F, ρ, R, h⟩ := tS_iff.mp h
    unfold popOwn at h
    split at h
    · rename_i kvs eds
      have q := getD_of eds (by intro z; cases z)
      obtain ⟨l, us, qs, _, fl, hp, r⟩ := R.od i kvs q
      refine ⟨.ref l, qs, l, rfl, .inl ⟨us, .inl hp⟩, F0, H0, F, ρ, R, (Fin.out h R).imp (fun u eu k F3 H3 z E3 wz => ?_) fun _ h => h⟩
      clear eu
      split at k
      · rename_i d
        split at k
        · rename_i yk eyk
          split at k
          · rename_i hs
            have ez := key_rep eyk (show Rep (gx X) F3 d z from wz)
            subst ez
            rcases valK_rep (k := yk) r with ⟨e1, _⟩ | ⟨d', v, e1, e2, _⟩
            · rw [e1] at hs
              cases hs
            · exact ⟨us, yk, v, E3.hh _ _ hp, rfl, e2, k F3 σ _ ((R.ext E3).change q rfl qs (fun ds' e => by cases e) (fun ds' e => by cases e; exact ⟨_, rfl, dropD_rep (r.mono E3.ff)⟩) rfl) E3.ff⟩
          · exact k.elim
        · exact k.elim
      · exact k.elim
    · exact h.elim
theorem s_dpopd {i : Nat} {y : Str} {kx : Expr} {p q2 apos cpos : Pos} {j : Nat} {gk : En → R W} (hv : PE X (.Name y p) (tVar i)) (hk : PE X kx (tD (gx X) Wx gk)) (nk : nst kx = true) (hl : (apos.endLine == cpos.line) = true) :
    PS X (.Expr (.Call (.Attribute (.Name y p) "pop" apos) [kx, .Constant .none j q2] [] cpos) pos) (tS (gx X) Wx fun ρ => popdOwn ρ i (gk ρ)) :=
  PS_imp (ps_expr (pe_dpop2 hv hk pe_non ⟨rfl, by rw [starEach_cons nk]; rfl, hl, by rw [starEach_cons nk]; rfl⟩) rfl) fun D σ H h => by
    obtain ⟨F0, H0, F, ρ, R, h⟩ := tS_iff.mp h
    unfold popdOwn at h
    split at h
    · rename_i kvs eds
      have q := getD_of eds (by intro z; cases z)
      obtain ⟨l, us, qs, _, fl, hp, r⟩ := R.od i kvs q
      refine ⟨.ref l, qs, l, rfl, .inl ⟨us, .inl hp⟩, F0, H0, F, ρ, R, (Fin.out h R).imp (fun u eu k F3 H3 z E3 wz => ?_) fun _ h => h⟩
      clear eu
      split at k
      · rename_i d
        split at k
        · rename_i yk eyk
          have ez := key_rep eyk (show Rep (gx X) F3 d z from wz)
          subst ez
          have fin := k F3 σ _ ((R.ext E3).change q rfl qs (fun ds' e => by cases e) (fun ds' e => by cases e; exact ⟨_, rfl, dropD_rep (k := yk) (r.mono E3.ff)⟩) rfl) E3.ff
          refine ⟨us, yk, E3.hh _ _ hp, rfl, fun v _ => fin, fun en => ?_⟩
          have e0 : dropK us yk = us := by
            unfold dropK
            refine List.filter_eq_self.mpr fun a ha => ?_
            have : valV us yk ≠ none ∨ a.1 ≠ yk := by
              by_cases e : a.1 = yk
              · left
                intro z
                unfold valV at z
                rw [Option.map_eq_none_iff, List.find?_eq_none] at z
                exact z a ha (by simpa using e)
              · exact .inr e
            rcases this with t | t
            · exact absurd en t
            · simpa using t
          rw [e0] at fin
          have eu : upd H3 l (.dK us) = H3 := by
            funext b
            by_cases hb : b = l
            · subst hb; rw [upd_same]; exact (E3.hh _ _ hp).symm
            · rw [upd_ne hb]
          rw [eu] at fin
          exact fin
        · exact k.elim
      · exact k.elim
    · exact h.elim
theorem set_both (hu : X.A.units + 64 < cLine) : PSet X (fun o i v H Q => rSetL o i v H Q ∨ ∃ p H', o = .ref p ∧ DPut H p i v H' ∧ Q H') := by
  intro pins s σ H o i v ou iu vu Q I ro ri rv h
  rcases h with h | ⟨p, H', rfl, g, q⟩
  · exact set_list pins s σ H o i v ou iu vu Q I ro ri rv h
  · cases ro
    exact d_setItem (by omega) I g ri rv fun s' I' => ⟨H', I', q⟩
theorem s_put {i : Nat} {y : Str} {ek : Expr} {p tpos : Pos} {gk : En → R W} (hu : X.A.units + 64 < cLine) (hv : PE X (.Name y p) (tVar i)) (hk : PE X ek (tD (gx X) Wx gk)) (he : PE X e (tD (gx X) Wx ge)) (nk : nst ek = true)
    (hs : swapsWithSole [.Subscript (.Name y p) ek tpos] e pos.line X.env = pure false) :
    PS X (.Assign [.Subscript (.Name y p) ek tpos] e pos) (tS (gx X) Wx fun ρ => outR (ge ρ) ρ fun w => putOwn ρ i (gk ρ) w.toD) :=
  PS_imp (ps_asg he (pg_sub hv hk (set_both hu) (ha := fun v => by cases ek <;> first | rfl | cases nk)) hs rfl) fun D σ H h => by
    obtain ⟨F0, H0, F, ρ, R, h⟩ := tS_iff.mp h
    refine ⟨F0, H0, F, ρ, R, (Fin.out h R).imp (fun w _ k F' H' v E wr => ?_) fun _ h => h⟩
    obtain ⟨F2, E2, _, rv⟩ := E.freeze wr
    have R2 := R.ext E2
    have k := Fin.mono k E2.ff
    unfold putOwn at k
    split at k
    · rename_i ds eds
      obtain ⟨l, vs, q, qs, _, fl, hp, r⟩ := own_list R2 eds
      refine ⟨.ref l, qs, F0, H0, F2, ρ, R2, (Fin.out k R2).imp (fun u _ k F3 H3 z E3 wz => ?_) fun _ h => h⟩
      split at k
      · split at k
        · rename_i n en
          have ez : z = .int _ := wz
          subst ez
          refine .inl ⟨l, vs, _, n, rfl, rfl, E3.hh _ _ hp, by rw [r.length]; exact en, ?_⟩
          exact k F3 σ _ ((R2.ext E3).change q rfl qs (fun ds' e => by cases e; exact ⟨_, rfl, Reps.set n (r.mono E3.ff) (rv.mono E3.ff)⟩) (fun ds' e => by cases e) rfl) E3.ff
        · exact k.elim
      · exact k.elim
    · rename_i kvs eds
      have q := getD_of eds (by intro z; cases z)
      obtain ⟨l, us, qs, _, fl, hp, r⟩ := R2.od i kvs q
      refine ⟨.ref l, qs, F0, H0, F2, ρ, R2, (Fin.out k R2).imp (fun u eu k F3 H3 z E3 wz => ?_) fun _ h => h⟩
      clear eu
      split at k
      · rename_i d
        split at k
        · rename_i yk eyk
          split at k
          · rename_i hs
            have ez := key_rep eyk (show Rep (gx X) F3 d z from wz)
            subst ez
            refine .inr ⟨l, _, rfl, .k (E3.hh _ _ hp) ?_, ?_⟩
            · rw [r.length]
              have h2 : (SIZE : Nat) < sizeLine := by decide
              omega
            · exact k F3 σ _ ((R2.ext E3).change q rfl qs (fun ds' e => by cases e) (fun ds' e => by cases e; exact ⟨_, rfl, putD_rep (rv.mono E3.ff) (r.mono E3.ff)⟩) rfl) E3.ff
          · exact k.elim
        · exact k.elim
      · exact k.elim
    · exact k.elim
theorem s_ex (he : PE X e (tD (gx X) Wx ge)) (hs : swapsWith e none pos.line X.env = pure false) : PS X (.Expr e pos) (tS (gx X) Wx fun ρ => outR (ge ρ) ρ fun _ => .nx ρ) :=
  PS_imp (ps_expr he hs) fun D σ H h => by
    obtain ⟨F0, H0, F, ρ, R, h⟩ := tS_iff.mp h
    exact ⟨F0, H0, F, ρ, R, (Fin.out h R).imp (fun w _ k F' H' v E wr => k F' σ H' (R.ext E) E.ff) fun _ h => h⟩
theorem s_ret {c : C} (hv : ∀ i, c ≠ .var i) (he : PE X e (tD (gx X) Wx ge)) : PS X (.Return (some e) pos) (tS (gx X) Wx fun ρ => retOf c ρ (ge ρ)) :=
  PS_imp (ps_ret he) fun D σ H h => by
    obtain ⟨F0, H0, F, ρ, R, h⟩ := tS_iff.mp h
    have ee : retOf c ρ (ge ρ) = outR (ge ρ) ρ fun w => .rt w := by
      have all : ∀ r : G81.R W, retOf c ρ r = outR r ρ fun w => .rt w := fun r => by
        cases c <;> first | exact absurd rfl (hv _) | (cases r <;> rfl)
      exact all _
    rw [ee] at h
    refine ⟨F0, H0, F, ρ, R, (Fin.out h R).imp (fun w _ k F' H' v E wr => ?_) fun _ h => h⟩
    have o := R.outW E wr
    exact k F' H' v o.1 o.2
theorem s_retv {i : Nat} (he : PE X e (tVar i)) : PS X (.Return (some e) pos) (tS (gx X) Wx fun ρ => retOf (.var i) ρ (ge ρ)) :=
  PS_imp (ps_ret he) fun D σ H h => by
    obtain ⟨F0, H0, F, ρ, R, h⟩ := tS_iff.mp h
    unfold retOf at h
    dsimp only at h
    split at h
    · rename_i d hd
      obtain ⟨v, e1, r⟩ := R.val i d (getD_of hd (by intro z; cases z))
      exact ⟨v, e1, h F H v R.out r⟩
    · rename_i ds hd
      obtain ⟨l, vs, q, qs, n0, fl, hp, r⟩ := own_list R hd
      exact ⟨_, qs, h F H _ R.out ⟨l, vs, rfl, n0, fl, hp, r⟩⟩
    · rename_i ds hd
      obtain ⟨l, vs, qs, n0, fl, hp, r⟩ := R.od i ds (getD_of hd (by intro z; cases z))
      exact ⟨_, qs, h F H _ R.out ⟨l, vs, rfl, n0, fl, hp, r⟩⟩
    · exact h.elim
/-- x = y, y being a name's own -/
theorem s_mv {i j : Nat} (h : PS X (.Assign [tg] e pos) (tAsg (tVar j) (gName i))) : PS X (.Assign [tg] e pos) (tS (gx X) Wx fun ρ => mvEv ρ i j) :=
  PS_imp h fun D σ H h => by
    obtain ⟨F0, H0, F, ρ, R, h⟩ := tS_iff.mp h
    unfold mvEv at h
    split at h
    · rename_i d hd
      obtain ⟨v, e1, r⟩ := R.val j d (getD_of hd (by intro z; cases z))
      exact ⟨v, e1, h F (σ.set i (some v)) H (R.set r) (Same.refl _)⟩
    · rename_i ds hd
      obtain ⟨l, vs, q, qs, n0, fl, hp, r⟩ := own_list R hd
      obtain ⟨R2, s2, rp⟩ := R.frz q qs n0 fl hp r
      exact ⟨_, qs, h _ (σ.set i (some (.ref l))) H (R2.set rp) s2⟩
    · exact h.elim
theorem s_ret0 : PS X (.Return none pos) (tS (gx X) Wx fun _ => .rt (.d .non)) :=
  PS_imp ps_retN fun D σ H h => by
    obtain ⟨F0, H0, F, ρ, R, h⟩ := tS_iff.mp h
    exact h F H .non R.out rfl
theorem s_if {c : Expr} {a b : List Stmt} {ft : En → R Bool} {fa fb : En → Fl} (hc : PT X c (tTt (gx X) Wx ft)) (ha : PSs X a (tS (gx X) Wx fa)) (hb : PSs X b (tS (gx X) Wx fb)) :
    PS X (.If c a b pos) (tS (gx X) Wx fun ρ => outR (ft ρ) ρ fun k => if k = true then fa ρ else fb ρ) :=
  PS_imp (ps_if hc ha hb) fun D σ H h => by
    obtain ⟨F0, H0, F, ρ, R, h⟩ := tS_iff.mp h
    refine ⟨F0, H0, F, ρ, R, (Fin.out h R).imp (fun k _ q F' H' E => ?_) fun _ h => h⟩
    cases k with
    | true => exact tS_iff.mpr ⟨F0, H0, F', ρ, R.ext E, Fin.mono (show Fin (gx X) Wx F0 H0 F D (fa ρ) from q) E.ff⟩
    | false => exact tS_iff.mpr ⟨F0, H0, F', ρ, R.ext E, Fin.mono (show Fin (gx X) Wx F0 H0 F D (fb ρ) from q) E.ff⟩
theorem s_pass : PS X (.Pass pos) (tS (gx X) Wx fun ρ => .nx ρ) := PS_imp ps_pass fun D σ H h => by
  obtain ⟨F0, H0, F, ρ, R, h⟩ := tS_iff.mp h
  exact h F σ H R (Same.refl _)
theorem s_brk : PS X (.Break pos) (tS (gx X) Wx fun ρ => .bk ρ) := PS_imp ps_break fun D σ H h => by
  obtain ⟨F0, H0, F, ρ, R, h⟩ := tS_iff.mp h
  exact h F σ H R (Same.refl _)
theorem s_cnt : PS X (.Continue pos) (tS (gx X) Wx fun ρ => .ct ρ) := PS_imp ps_continue fun D σ H h => by
  obtain ⟨F0, H0, F, ρ, R, h⟩ := tS_iff.mp h
  exact h F σ H R (Same.refl _)
theorem ss_nil : PSs X [] (tS (gx X) Wx fun ρ => .nx ρ) := PSs_imp pss_nil fun D σ H h => by
  obtain ⟨F0, H0, F, ρ, R, h⟩ := tS_iff.mp h
  exact h F σ H R (Same.refl _)
theorem ss_cons {st : Stmt} {rest : List Stmt} {f g : En → Fl} (h1 : PS X st (tS (gx X) Wx f)) (h2 : PSs X rest (tS (gx X) Wx g)) : PSs X (st :: rest) (tS (gx X) Wx fun ρ => match f ρ with
    | .nx ρ1 => g ρ1
    | k => k) :=
  PSs_imp (pss_cons h1 h2) fun D σ H h => by
    obtain ⟨F0, H0, F, ρ, R, h⟩ := tS_iff.mp h
    refine tS_iff.mpr ⟨F0, H0, F, ρ, R, ?_⟩
    cases ef : f ρ with
    | nx ρ1 =>
      rw [ef] at h
      intro F' σ' H' R' s
      exact tS_iff.mpr ⟨F0, H0, F', ρ1, R', Fin.mono h s⟩
    | bk ρ1 => rw [ef] at h; exact h
    | ct ρ1 => rw [ef] at h; exact h
    | rt w => rw [ef] at h; exact h
    | exc c ρ1 => rw [ef] at h; exact h
    | stuck => rw [ef] at h; exact h

theorem s_for {iter : Expr} {body : List Stmt} {g : Pt} {fi : En → R (List D × Bool)} {fb : En → Fl} (po : PassesOwn (model X.prog X.w) X.A X.env X.xe) (hc : X.calm = true) (hi : PI X tg iter (iD (gx X) Wx fi)) (hg : PG X tg (gPt X.K g))
    (hb : PSs X body (tS (gx X) Wx fb)) (hs : ∀ v, foldedSetIterable iter X.env v = pure v) :
    PS X (.For tg iter body [] pos) (tS (gx X) Wx fun ρ => outR (fi ρ) ρ fun dsb => if dsb.2 = true then .stuck else forL g fb dsb.1 ρ) :=
  PS_imp (ps_for po hc hi hg hb hs) fun D σ H h => by
    obtain ⟨F0, H0, F, ρ, R, h⟩ := tS_iff.mp h
    refine ⟨F0, H0, F, ρ, R, (Fin.out h R).imp (fun dsb _ k => ?_) fun _ h => h⟩
    intro F1 H1 J B E1 sB sB2 jok
    obtain ⟨ds, lb⟩ := dsb
    cases lb with
    | true => exact (show False from k).elim
    | false =>
      have k : Fin (gx X) Wx F0 H0 F1 D (forL g fb ds ρ) := Fin.mono k E1.ff
      have sBF := sB2 rfl
      refine ⟨fun i m σ H => ∃ F' ρ', Rel (gx X) F0 H0 ρ' F' σ H ∧ Same F1 F' ∧ i + m = ds.length ∧ Fin (gx X) Wx F0 H0 F' D (forL g fb (ds.drop i) ρ'), ⟨ds.length, F1, ρ, R.ext E1, Same.refl _, by omega, k⟩, fun i m σ2 H2 hw => ?_⟩
      obtain ⟨F', ρ', R', s1, em, k'⟩ := hw
      have jk := jok F' H2 s1 R'.fh (sBF.trans (s1.trans R'.fh))
      by_cases hlt : i < ds.length
      · have edrop : ds.drop i = ds[i] :: ds.drop (i + 1) := List.drop_eq_getElem_cons hlt
        obtain ⟨jg, jy⟩ := jk.1 i ds[i] (List.getElem?_eq_getElem hlt)
        refine .inr ⟨jg, fun σ' H' => ∃ m', m' < m ∧ ∃ F' ρ', Rel (gx X) F0 H0 ρ' F' σ' H' ∧ Same F1 F' ∧ (i + 1) + m' = ds.length ∧ Fin (gx X) Wx F0 H0 F' D (forL g fb (ds.drop (i + 1)) ρ'), fun σ' H' z => z, fun v Hy y => ?_⟩
        obtain ⟨F2, E2, rv⟩ := jy v Hy y
        rw [edrop] at k'
        unfold forL at k'
        cases ea : asgn g ds[i] ρ' with
        | none => rw [ea] at k'; exact k'.elim
        | some ρ1 =>
          rw [ea] at k'
          dsimp only at k'
          refine pt_ok (G := gx X) ea rv (R'.ext E2) fun σ1 R1 _ => tS_iff.mpr ⟨F0, H0, F2, ρ1, R1, ?_⟩
          have s2 := s1.trans E2.ff
          cases eb : fb ρ1 with
          | nx ρ2 =>
            rw [eb] at k'
            exact fun F3 σ3 H3 R3 s3 => ⟨m - 1, by omega, F3, ρ2, R3, s2.trans s3, by omega, Fin.mono k' (E2.ff.trans s3)⟩
          | ct ρ2 =>
            rw [eb] at k'
            exact fun F3 σ3 H3 R3 s3 => ⟨m - 1, by omega, F3, ρ2, R3, s2.trans s3, by omega, Fin.mono k' (E2.ff.trans s3)⟩
          | bk ρ2 =>
            rw [eb] at k'
            exact fun F3 σ3 H3 R3 s3 => k' F3 σ3 H3 R3 (E2.ff.trans s3)
          | rt w => rw [eb] at k'; exact k'
          | exc c ρ2 =>
            rw [eb] at k'
            exact fun F3 σ3 H3 a R3 s3 e => k' F3 σ3 H3 a R3 (E2.ff.trans s3) e
          | stuck => rw [eb] at k'; exact k'
      · have ei : i = ds.length := by omega
        subst ei
        have e0 : ds.drop ds.length = [] := List.drop_length
        rw [e0] at k'
        exact .inl ⟨jk.2, k' F' σ2 H2 R' (Same.refl _)⟩
theorem s_while {c : Expr} {body : List Stmt} {ft : En → R Bool} {fb : En → Fl} (po : PassesOwn (model X.prog X.w) X.A X.env X.xe) (hc : PT X c (tTt (gx X) Wx ft)) (hb : PSs X body (tS (gx X) Wx fb)) :
    PS X (.While c body [] pos) (tS (gx X) Wx fun ρ => whL ft fb TURNS ρ) :=
  PS_imp (ps_while po hc hb) fun D σ H h => by
    obtain ⟨F0, H0, F, ρ, R, h⟩ := tS_iff.mp h
    refine ⟨fun m σ H => ∃ F' ρ', Rel (gx X) F0 H0 ρ' F' σ H ∧ Fin (gx X) Wx F0 H0 F' D (whL ft fb m ρ'), ⟨TURNS, F, ρ, R, h⟩, fun m σ2 H2 hw => ?_⟩
    obtain ⟨F', ρ', R', k⟩ := hw
    cases m with
    | zero => exact k.elim
    | succ n =>
      unfold whL at k
      refine ⟨F0, H0, F', ρ', R', ?_⟩
      cases et : ft ρ' with
      | stuck => rw [et] at k; exact k
      | exc c => rw [et] at k; exact fun F3 H3 a e E => k F3 σ2 H3 a (R'.ext E) E.ff e
      | ok b =>
        rw [et] at k
        intro F3 H3 E3
        cases b with
        | false => exact k F3 σ2 H3 (R'.ext E3) E3.ff
        | true =>
          dsimp only at k
          show ∃ N : St → Hp → Prop, _
          refine ⟨fun σ' H' => ∃ m', m' < n + 1 ∧ ∃ F' ρ', Rel (gx X) F0 H0 ρ' F' σ' H' ∧ Fin (gx X) Wx F0 H0 F' D (whL ft fb m' ρ'), fun σ' H' z => z, tS_iff.mpr ⟨F0, H0, F3, ρ', R'.ext E3, ?_⟩⟩
          cases eb : fb ρ' with
          | nx ρ2 =>
            rw [eb] at k
            exact fun F4 σ4 H4 R4 s4 => ⟨n, Nat.lt_succ_self n, F4, ρ2, R4, Fin.mono k (E3.ff.trans s4)⟩
          | ct ρ2 =>
            rw [eb] at k
            exact fun F4 σ4 H4 R4 s4 => ⟨n, Nat.lt_succ_self n, F4, ρ2, R4, Fin.mono k (E3.ff.trans s4)⟩
          | bk ρ2 =>
            rw [eb] at k
            exact fun F4 σ4 H4 R4 s4 => k F4 σ4 H4 R4 (E3.ff.trans s4)
          | rt w => rw [eb] at k; exact k
          | exc c ρ2 =>
            rw [eb] at k
            exact fun F4 σ4 H4 a R4 s4 e => k F4 σ4 H4 a R4 (E3.ff.trans s4) e
          | stuck => rw [eb] at k; exact k
end
end G81
end
section
set_option Elab.async false
set_option linter.all false
set_option maxHeartbeats 4000000
namespace G81
open PySem PySem.Spec PyProof.Rows L2
section
variable {X : Cx} {pins : List (Addr × Obj)} {σ : L2.St} {H : Hp} {s : Shared}
/-- an error that was caught is from now on a thing of ours -/
theorem Inv.adopt {C a : Addr} {oe : Obj} {vs : Array Value} (I : Inv X pins σ H s) (ha : s.heap.get? a = some oe) (hz : Zc (.ref C) none oe) (hd : oe.data = .fields vs) (na : H a = none) (n0 : ∀ o, X.s_0.heap.get? a = some o → a ∈ X.ex) (nL : a ≠ X.env.locals) (np : ∀ p ∈ X.pn ++ pins, p.1 ≠ a) : Inv X pins σ (upd H a (ExK C a)) s := by
  refine ⟨I.ok, I.os, I.bare, ⟨I.base.keep, I.base.slot, fun b o e n hx => ?_, I.base.there, fun b xs e => ?_, fun b o u e => ?_, fun b ps e => ?_⟩, I.loc, I.cell, ?_, fun x c e => ?_, fun p hp => ?_, ?_, I.len⟩
  · by_cases z : b = a
    · subst z; exact absurd (n0 o e) hx
    · rw [upd_ne z]; exact I.base.free b o e n hx
  · have q := I.base.tups b xs e
    rw [upd_ne (fun z => by rw [z, na] at q; cases q)]; exact q
  · have q := I.base.frzs b o u e
    rw [upd_ne (fun z => by rw [z, na] at q; cases q)]; exact q
  · obtain ⟨m, q⟩ := I.base.tbls b ps e
    exact ⟨m, by rw [upd_ne (fun z => by rw [z, na] at q; cases q)]; exact q⟩
  · rw [upd_ne (fun z => nL z.symm)]; exact I.free
  · obtain ⟨v, o, ho, hv⟩ := I.cell x c e
    rw [upd_ne (fun z => by rw [z, ha] at ho; cases ho; rw [hd] at hv; cases hv)]
    exact I.freeC x c e
  · obtain ⟨h1, h2, h3⟩ := I.pin p hp
    exact ⟨h1, by rw [upd_ne (np p hp)]; exact h2, h3⟩
  · exact I.hok.laidN (fun _ _ q => q) na ⟨⟨oe, ha, hz, vs, hd⟩, ⟨oe, ha⟩, fun _ _ ⟨o, q, r⟩ k => ⟨o, k o q, r⟩⟩
end
/-- what the clause wishes of an exception -/
def wKeep (K : PySem.W.Frag) (c : Value) (i k : Nat) (D : Ends) : WX := fun cls d σ H =>
  d = none ∧ ∃ C, cls = .ref C ∧ PySem.W.exmOne K cls c = some true ∧ ∀ a, H a = none → D.nx ((σ.set k (some (.ref a))).set i none) (upd H a (ExK C a))
section
variable {X : Cx} {x n kn : Str} {c : Value} {i k : Nat} {body : List Stmt} {np kp np2 ap pos pos' : Pos} {tb : WX → TS}
theorem ps_try_keep (hs : X.stack = X.env :: X.outer) (hf : X.env.frame = some X.env.locals) (hN : X.N.Nodup) (hi : X.N[i]? = some n) (hk : X.N[k]? = some kn) (hik : i ≠ k) (hln : X.env.kindOf n = some .local) (hkn : X.env.kindOf kn = some .local) (hdn : (n == ("__debug__" : Str)) = false) (hdc : (n == ("__classdict__" : Str)) = false) (hc : Names X x c)
    (hb : ∀ (W : WX) (pn : List (Addr × Obj)) (xe : Value → Shared → Prop), Takes (X.tr pn xe) W → PassesOwn (model X.prog X.w) X.A X.env xe → PSs (X.tr pn xe) body (tb W)) :
    PS X (.Try body [.ExceptHandler (some (.Name x np)) (some n) [.Assign [.Name kn kp] (.Name n np2) ap] pos'] [] [] pos) (fun D σ H => tb (wKeep X.K c i k D) D σ H) := by
  refine ⟨fun pins s σ H D I h => ?_⟩
  have ok := I.ok
  have hfr : X.A.frames = some (X.env :: X.outer) := by rw [ok.frames, hs]
  have hloc : Loc X.env.scope n := .inl hln
  refine wpAny_Try_except ?_
  refine wpAny_mono ((hb (wKeep X.K c i k D) (X.pn ++ pins) (fun e s₁ => wpAny (model X.prog X.w) X.A (noteFrame e X.env) (fun _ s₂ => wpAny (model X.prog X.w) X.A (setFlight e none) (fun _ s₃ =>
    wpAny (model X.prog X.w) X.A (handleBy e X.env [.ExceptHandler (some (.Name x np)) (some n) [.Assign [.Name kn kp] (.Name n np2) ap] pos']) (SP X pins D) X.xe s₃) X.xe s₂) X.xe s₁) (fun u s' xx => ?_) PassesOwn.looking).run [] s σ H D (I.toTry _) h) (fun f s1 hsp => ?_) (fun e s1 he => he)
  · obtain ⟨a, B, sI, pins', σ', H', cls, d, rfl, J', nb, up, sky, na, os, ag, hd0, C, hcls, hb1, hyes⟩ := xx
    subst hd0 hcls
    have J : Inv X pins σ' H' sI := J'.ofTry ok
    have sky' : Sky B (X.env :: X.outer) a (Zc (.ref C) none) X.env.locals s'.heap := by rw [← hs]; exact sky
    show wpAny (model X.prog X.w) X.A (noteFrame (.ref a) X.env) _ _ _
    refine Sky.land Zc.steady hfr hf sky' fun h3 fl3 up3 => ?_
    have J3 : Inv X pins σ' H' { s' with heap := h3 } := J.landed nb fl3.1 (up.trans up3) os ag
    obtain ⟨oe3, vs3, he3, hz3, hd3⟩ := fl3.there
    have notFr : ∀ {h : Heap} {o : Obj} {vs : Array Value}, h.FunFrames B (X.env :: X.outer) → h.get? a = some o → o.data = .fields vs → a ∉ frs (X.env :: X.outer) := fun {h o vs} ff e dd hm => by
      obtain ⟨_, o', e', hnf⟩ := ff.mem hm
      rw [e] at e'; cases e'
      exact hnf _ dd
    have nfr := notFr fl3.2.2.1 he3 hd3
    have nL : a ≠ X.env.locals := fun z => nfr (List.mem_filterMap.mpr ⟨X.env, List.mem_cons_self, by rw [hf, z]⟩)
    have nF : a ∉ X.fs := fun hm => by
      obtain ⟨e, he, q⟩ := List.mem_filterMap.mp hm
      exact nfr (List.mem_filterMap.mpr ⟨e, List.mem_cons_of_mem _ he, q⟩)
    have nB : B.get? a = none := fl3.2.1
    have nI : sI.heap.get? a = none := by
      cases q : sI.heap.get? a with
      | none => rfl
      | some o =>
        have z := nb a o q (by rw [hs]; exact nfr)
        rw [nB] at z; cases z
    have n0 : ∀ o, X.s_0.heap.get? a = some o → a ∈ X.ex := fun o e => by
      refine Classical.byContradiction fun hx => ?_
      obtain ⟨o', z⟩ := J.base.there a o e hx
      rw [nI] at z; cases z
    have npn : ∀ p ∈ X.pn ++ pins, p.1 ≠ a := fun p hp z => by
      have := (J.pin p hp).1
      rw [z, nI] at this; cases this
    have S3 := J3.suite he3 hd3 na nL nF
    refine wpAny_handleBy_cons (codeAny_handlers_test ?_) (by intro q; cases q)
    have LT : PySem.W.Looks (model X.prog X.w) h3 (typeOf (.ref a)) (.ref C) := fun A Q E s k q => wpAny_typeOf_ref (k _ _ he3) (by rw [hz3.1]; exact q)
    have LM := PySem.W.exm_one (M := model X.prog X.w) (J3.kIn) LT hb1
    have test : ∀ {Q : Value → Shared → Prop} {E : Value → Shared → Prop}, Q c { s' with heap := h3 } → wpAny (model X.prog X.w) (X.A.mark (some (.ref a))) (eval (.Name x np) X.env) Q E { s' with heap := h3 } := fun {Q E} q => by
      obtain ⟨hg, hdbg, hm | ⟨hm, hv, hnn⟩⟩ := hc
      · exact ld_glob (X := X.suite a ((a, oe3) :: (X.pn ++ pins))) S3 hg hm q hdbg
      · exact ld_blt (X := X.suite a ((a, oe3) :: (X.pn ++ pins))) S3 hg hm hv q hnn hdbg
    refine test (LM.here ?_)
    refine codeAny_handlers_suite_as ?_
    refine HandSPX.lands_againZ fl3 fun h4 fl4 up4 => ?_
    have J4 : Inv X pins σ' H' { s' with heap := h4 } := J.landed nb fl4.1 ((up.trans up3).trans up4) os ag
    obtain ⟨oe4, vs4, he4, hz4, hd4⟩ := fl4.there
    have S4 := J4.suite he4 hd4 na nL nF
    refine store_ok (X := X.suite a ((a, oe4) :: (X.pn ++ pins))) (v := .ref a) S4 hN hi hloc rfl (fun s5 S5 => ?_) (.inr hln)
    have li : i < σ'.length := by rw [J.len]; exact (List.getElem?_eq_some_iff.mp hi).1
    have PV : PE (X.suite a ((a, oe4) :: (X.pn ++ pins))) (.Name n np2) (tVar i) := pe_var hi (.inl hln) hdn hdc
    have PA : PS (X.suite a ((a, oe4) :: (X.pn ++ pins))) (.Assign [.Name kn kp] (.Name n np2) ap) (tAsg (tVar i) (gName k)) := ps_asg PV (pg_name hN hk (.inl hkn) (.inr hkn))
    refine wpAny_mono ((pss_cons PA pss_nil).run [] s5 _ H' { nx := fun σ6 H6 => σ6 = (σ'.set i (some (.ref a))).set k (some (.ref a)) ∧ H6 = H', rt := fun _ _ => False, bk := fun _ _ => False, ct := fun _ _ => False } S5 ⟨.ref a, List.getElem?_set_self li, rfl, rfl⟩) (fun f s6 hsp => ?_) (fun _ _ z => False.elim z)
    cases f with
    | next =>
      obtain ⟨σ6, H6, S6, e1, e2⟩ := hsp
      subst e1 e2
      have pa := (S6.pin (a, oe4) (List.mem_append_left _ List.mem_cons_self)).1
      have J6 := Inv.adopt (S6.unsuite ok) pa hz4 hd4 na n0 nL npn
      refine gone_ok J6 hN hi hln fun s7 J7 => ?_
      have ec : ((σ'.set i (some (.ref a))).set k (some (.ref a))).set i none = (σ'.set k (some (V.ref a))).set i none := by
        rw [List.set_comm _ _ hik, List.set_set]
      rw [ec] at J7
      exact ⟨_, _, J7, hyes a na⟩
    | brk => obtain ⟨_, _, _, z⟩ := hsp; exact z.elim
    | cont => obtain ⟨_, _, _, z⟩ := hsp; exact z.elim
    | ret u => obtain ⟨_, _, _, _, _, z⟩ := hsp; exact z.elim
  · cases f with
    | next =>
      obtain ⟨σ', H', J', q⟩ := hsp
      exact wpAny_execs_nil ⟨σ', H', J'.ofTry ok, q⟩
    | brk =>
      obtain ⟨σ', H', J', q⟩ := hsp
      exact ⟨σ', H', J'.ofTry ok, q⟩
    | cont =>
      obtain ⟨σ', H', J', q⟩ := hsp
      exact ⟨σ', H', J'.ofTry ok, q⟩
    | ret u =>
      obtain ⟨v, σ', H', J', r, q⟩ := hsp
      exact ⟨v, σ', H', J'.ofTry ok, r, q⟩
end
section
variable {X : Cx} {Wx : WX}
/-- a slot is emptied -/
theorem Rel.unset {G : Gx} {F0 : Fr} {H0 F H : Hp} {ρ : En} {σ : L2.St} (R : Rel G F0 H0 ρ F σ H) (i : Nat) : Rel G F0 H0 (ρ.set i .no) F (σ.set i none) H := by
  have := R.wipe [i]
  exact this
/-- try: b except x as i: k = i -/
theorem s_try {i k : Nat} {cs : List Str} {c : Value} {st : Stmt} {fb : En → Fl} (hik : i ≠ k) (h : PS X st (fun D σ H => tS (gx X) (wKeep X.K c i k D) fb D σ H))
    (hx : ∀ c' ∈ cs, ∀ C, X.mg c' = some (.ref C) → PySem.W.exmOne X.K (.ref C) c = some true) : PS X st (tS (gx X) Wx fun ρ => tryEv i k cs (fb ρ)) :=
  PS_imp h fun D σ H q => by
    obtain ⟨F0, H0, F, ρ, R, q⟩ := tS_iff.mp q
    refine tS_iff.mpr ⟨F0, H0, F, ρ, R, ?_⟩
    unfold tryEv at q
    cases hv : fb ρ with
    | nx ρ1 => rw [hv] at q; exact q
    | bk ρ1 => rw [hv] at q; exact q
    | ct ρ1 => rw [hv] at q; exact q
    | rt w => rw [hv] at q; exact q
    | stuck => rw [hv] at q; exact q
    | exc c' ρ1 =>
      rw [hv] at q
      dsimp only at q
      split at q
      · rename_i hc
        intro F' σ' H' C R' sF hm
        refine ⟨rfl, C, rfl, hx c' hc C hm, fun a na => ?_⟩
        have E := Ext.lay (o := ExK C a) R'.fh na
        have rp : Rep (gx X) (upd F' a (ExK C a)) (.exc c') (.ref a) := ⟨a, C, rfl, hm, upd_same⟩
        exact q _ _ _ (((R'.ext E).set rp).unset i) (sF.trans E.ff)
      · exact q.elim
end
end G81
end
section
set_option Elab.async false
set_option linter.all false
set_option maxHeartbeats 4000000
namespace G81
open PySem PySem.Spec L2
section
variable {G : Gx} {F0 : Fr} {H0 F F' H H' : Hp} {ρ : En} {σ : St}
theorem Rel.forget (R : Rel G F0 H0 ρ F σ H) (i : Nat) : Rel G F0 H0 (ρ.set i .no) F σ H := by
  refine ⟨R.f0, R.h0, R.fh, R.new, by rw [List.length_set, R.len], fun j d z => ?_, fun j ds z => ?_, fun j ds z => ?_, fun a b r x t hne ha hb hx ht g1 g2 => ?_, R.obj.setL fun _ z => by cases z⟩
  · rcases set_at z with ⟨_, y⟩ | ⟨_, z⟩
    · cases y
    · exact R.val j d z
  · rcases set_at z with ⟨_, y⟩ | ⟨_, z⟩
    · cases y
    · exact R.ol j ds z
  · rcases set_at z with ⟨_, y⟩ | ⟨_, z⟩
    · cases y
    · exact R.od j ds z
  · rcases set_at ha with ⟨_, y⟩ | ⟨_, ha⟩
    · subst y; cases hx
    · rcases set_at hb with ⟨_, y⟩ | ⟨_, hb⟩
      · subst y; cases ht
      · exact R.sep a b r x t hne ha hb hx ht g1 g2
/-- no name's own stands at a -/
def Far (ρ : En) (σ : St) (a : Addr) : Prop := ∀ (j : Nat) (s : Sl), ρ[j]? = some s → s.own = true → σ[j]? ≠ some (some (.ref a))
theorem Rel.far_upd (R : Rel G F0 H0 ρ F σ H) {a : Addr} (h0 : H0 a = none) (hf : F a = none) (fa : Far ρ σ a) (o : HO) : Rel G F0 H0 ρ F σ (upd H a o) := by
  refine ⟨R.f0, fun b x z => ?_, fun b x z => ?_, R.new, R.len, R.val, fun j ds z => ?_, fun j ds z => ?_, R.sep, R.obj⟩
  · rw [upd_ne (ne_of_none z h0)]; exact R.h0 _ _ z
  · rw [upd_ne (ne_of_none z hf)]; exact R.fh _ _ z
  · obtain ⟨p, vs, q1, q2, q3, q4, q5⟩ := R.ol j ds z
    exact ⟨p, vs, q1, q2, q3, by rw [upd_ne (fun e => fa j _ z rfl (by rw [← e]; exact q1))]; exact q4, q5⟩
  · obtain ⟨p, vs, q1, q2, q3, q4, q5⟩ := R.od j ds z
    exact ⟨p, vs, q1, q2, q3, by rw [upd_ne (fun e => fa j _ z rfl (by rw [← e]; exact q1))]; exact q4, q5⟩
theorem Rel.far_in (R : Rel G F0 H0 ρ F σ H) {a : Addr} {o : HO} (h0 : H0 a = none) (hf : F a = none) (fa : Far ρ σ a) (ha : H a = some o) : Rel G F0 H0 ρ (upd F a o) σ H := by
  have s : Same F (upd F a o) := same_upd hf
  refine ⟨R.f0.trans s, R.h0, fun b x z => ?_, fun b x z => ?_, R.len, fun j d z => ?_, fun j ds z => ?_, fun j ds z => ?_, R.sep, R.obj⟩
  · by_cases c : b = a
    · subst c; rw [upd_same] at z; cases z; exact ha
    · rw [upd_ne c] at z; exact R.fh b x z
  · by_cases c : b = a
    · subst c; exact .inr h0
    · rw [upd_ne c] at z; exact R.new b x z
  · obtain ⟨v, h1, h2⟩ := R.val j d z
    exact ⟨v, h1, h2.mono s⟩
  · obtain ⟨p, vs, q1, q2, q3, q4, q5⟩ := R.ol j ds z
    exact ⟨p, vs, q1, q2, by rw [upd_ne (fun e => fa j _ z rfl (by rw [← e]; exact q1))]; exact q3, q4, q5.mono s⟩
  · obtain ⟨p, vs, q1, q2, q3, q4, q5⟩ := R.od j ds z
    exact ⟨p, vs, q1, q2, by rw [upd_ne (fun e => fa j _ z rfl (by rw [← e]; exact q1))]; exact q3, q4, q5.mono s⟩
theorem Rel.recall (R : Rel G F0 H0 ρ F σ H) {i : Nat} {p : Addr} {vs : List V} {ds : List D} (q : σ[i]? = some (some (.ref p))) (h0 : H0 p = none) (hf : F p = none) (fa : Far ρ σ p) (hp : H p = some (.lst vs)) (r : Reps G F ds vs) : Rel G F0 H0 (ρ.set i (.ol ds)) F σ H := by
  refine ⟨R.f0, R.h0, R.fh, R.new, by rw [List.length_set, R.len], fun j d z => ?_, fun j es z => ?_, fun j es z => ?_, fun a b r x t hne ha hb hx ht g1 g2 => ?_, R.obj.setL fun _ z => by cases z⟩
  · rcases set_at z with ⟨_, y⟩ | ⟨_, z⟩
    · cases y
    · exact R.val j d z
  · rcases set_at z with ⟨rfl, y⟩ | ⟨_, z⟩
    · cases y
      exact ⟨p, vs, q, h0, hf, hp, r⟩
    · exact R.ol j es z
  · rcases set_at z with ⟨_, y⟩ | ⟨_, z⟩
    · cases y
    · exact R.od j es z
  · rcases set_at ha with ⟨rfl, y⟩ | ⟨_, ha⟩
    · rcases set_at hb with ⟨e, _⟩ | ⟨_, hb⟩
      · exact hne e
      · rw [q] at g1
        cases g1
        exact fa b t hb ht g2
    · rcases set_at hb with ⟨rfl, y⟩ | ⟨_, hb⟩
      · rw [q] at g2
        cases g2
        exact fa a x ha hx g1
      · exact R.sep a b r x t hne ha hb hx ht g1 g2
/-- the list at p of the lists at qs -/
structure Gs (G : Gx) (F0 : Fr) (H0 : Hp) (ρ : En) (F : Hp) (σ : St) (H : Hp) (i : Nat) (p : Addr) (qs : List Addr) (m : List (List Str)) : Prop where
  rel : Rel G F0 H0 ρ F σ H
  at_ : σ[i]? = some (some (.ref p))
  no : ρ[i]? = some .no
  len : qs.length = m.length
  hp : H p = some (.lst (qs.map V.ref))
  far : ∀ a, a = p ∨ a ∈ qs → H0 a = none ∧ F a = none ∧ Far ρ σ a
  nd : (p :: qs).Nodup
  rows : ∀ (j : Nat) (g : List Str) (q : Addr), m[j]? = some g → qs[j]? = some q → H q = some (.lst (g.map V.str))
theorem Gs.row (S : Gs G F0 H0 ρ F σ H i p qs m) {a : Addr} (h : a = p ∨ a ∈ qs) : ∃ o, H a = some o := by
  rcases h with rfl | h
  · exact ⟨_, S.hp⟩
  · obtain ⟨j, hj⟩ := List.mem_iff_getElem?.mp h
    have hl := (List.getElem?_eq_some_iff.mp hj).1
    exact ⟨_, S.rows j _ a (List.getElem?_eq_getElem (by rw [← S.len]; exact hl)) hj⟩
theorem Gs.ext (S : Gs G F0 H0 ρ F σ H i p qs m) (E : Ext F H F' H') : Gs G F0 H0 ρ F' σ H' i p qs m where
  rel := S.rel.ext E
  at_ := S.at_
  no := S.no
  len := S.len
  hp := E.hh _ _ S.hp
  far := fun a h => by
    obtain ⟨h1, h2, h3⟩ := S.far a h
    obtain ⟨o, ho⟩ := S.row h
    exact ⟨h1, E.keepFree ho h2, h3⟩
  nd := S.nd
  rows := fun j g q h1 h2 => E.hh _ _ (S.rows j g q h1 h2)
theorem Gs.setv (S : Gs G F0 H0 ρ F σ H i p qs m) {o : Nat} (hne : i ≠ o) {d : D} {v : V} (r : Rep G F d v) : Gs G F0 H0 (ρ.set o (.v d)) F (σ.set o (some v)) H i p qs m where
  rel := S.rel.set r
  at_ := by rw [List.getElem?_set_ne (fun e => hne e.symm)]; exact S.at_
  no := by rw [List.getElem?_set_ne (fun e => hne e.symm)]; exact S.no
  len := S.len
  hp := S.hp
  far := fun a h => by
    obtain ⟨h1, h2, h3⟩ := S.far a h
    refine ⟨h1, h2, fun j s hj hs hσ => ?_⟩
    rcases set_at hj with ⟨_, y⟩ | ⟨n, hj⟩
    · subst y; cases hs
    · rw [List.getElem?_set_ne n] at hσ
      exact h3 j s hj hs hσ
  nd := S.nd
  rows := S.rows
/-- the last list grows -/
theorem Gs.grow (S : Gs G F0 H0 ρ F σ H i p qs m) (hm : m ≠ []) (n : Str) : ∃ q, atI (qs.map V.ref) (-1) = some (.ref q) ∧ H q = some (.lst ((m.getLastD []).map V.str)) ∧
    Gs G F0 H0 ρ F σ (upd H q (.lst ((m.getLastD []).map V.str ++ [.str n]))) i p qs (m.dropLast ++ [m.getLastD [] ++ [n]]) := by
  have hl : 0 < m.length := List.length_pos_iff.mpr hm
  have hq : qs ≠ [] := fun e => by have := S.len; rw [e] at this; simp at this; omega
  have eq := (List.dropLast_concat_getLast hq).symm
  have em := (List.dropLast_concat_getLast hm).symm
  have eD : m.getLastD [] = m.getLast hm := by rw [List.getLastD_eq_getLast?, List.getLast?_eq_some_getLast hm]; rfl
  rw [eD]
  have lq := S.len
  have idx : m[m.length - 1]? = some (m.getLast hm) := by rw [List.getLast_eq_getElem, List.getElem?_eq_getElem (by omega)]
  have idq : qs[m.length - 1]? = some (qs.getLast hq) := by rw [List.getLast_eq_getElem, ← lq, List.getElem?_eq_getElem (by omega)]
  have row := S.rows _ _ _ idx idq
  have memq : qs.getLast hq ∈ qs := List.getLast_mem hq
  generalize hqe : qs.getLast hq = q at row idq memq eq
  obtain ⟨f1, f2, f3⟩ := S.far q (.inr memq)
  have np : p ≠ q := fun e => (List.nodup_cons.mp S.nd).1 (e ▸ memq)
  refine ⟨q, ?_, row, S.rel.far_upd f1 f2 f3 _, S.at_, S.no, by rw [List.length_append, List.length_dropLast, List.length_singleton]; omega, by rw [upd_ne np]; exact S.hp, S.far, S.nd, fun j g a h1 h2 => ?_⟩
  · rw [eq, List.map_append]
    have e : ixN (qs.dropLast.map V.ref ++ [V.ref q]).length (-1) = some (qs.dropLast.map V.ref).length := by
      unfold ixN
      rw [if_neg (by omega), List.length_append, List.length_singleton, if_pos (by omega)]
      congr 1
      omega
    show atI (qs.dropLast.map V.ref ++ [V.ref q]) (-1) = _
    unfold atI
    rw [e]
    simp
  · have hj : j < m.length := by
      have := (List.getElem?_eq_some_iff.mp h2).1
      omega
    by_cases c : j = m.length - 1
    · subst c
      rw [idq] at h2
      cases h2
      rw [List.getElem?_append_right (by rw [List.length_dropLast]; omega), List.length_dropLast, Nat.sub_self] at h1
      cases h1
      rw [upd_same, List.map_append]
      rfl
    · have hne : a ≠ q := by
        intro e
        subst e
        have nd := (List.nodup_cons.mp S.nd).2
        have := (List.getElem?_inj (show j < qs.length by omega) nd).mp (h2.trans idq.symm)
        omega
      rw [upd_ne hne]
      rw [List.getElem?_append_left (by rw [List.length_dropLast]; omega), List.getElem?_dropLast, if_pos (by omega)] at h1
      exact S.rows j g a h1 h2
/-- a new list behind -/
theorem Gs.more (S : Gs G F0 H0 ρ F σ H i p qs m) (n : Str) {q : Addr} (hq : H q = none) : Gs G F0 H0 ρ F σ (upd (upd H q (.lst [.str n])) p (.lst (qs.map V.ref ++ [.ref q]))) i p (qs ++ [q]) (m ++ [[n]]) := by
  have E : Ext F H F (upd H q (.lst [.str n])) := Ext.own S.rel.fh hq
  have S1 := S.ext E
  obtain ⟨f1, f2, f3⟩ := S1.far p (.inl rfl)
  have fq : H0 q = none ∧ F q = none := ⟨S.rel.h0.free hq, S.rel.fh.free hq⟩
  have farq : Far ρ σ q := fun j s hj hs hσ => by
    obtain ⟨_, _, o, ho⟩ := S.rel.own_at hj hs hσ
    rw [hq] at ho
    cases ho
  have notin : q ≠ p ∧ q ∉ qs := by
    refine ⟨fun e => ?_, fun e => ?_⟩
    · obtain ⟨o, ho⟩ := S.row (.inl e)
      rw [hq] at ho; cases ho
    · obtain ⟨o, ho⟩ := S.row (.inr e)
      rw [hq] at ho; cases ho
  refine ⟨S1.rel.far_upd f1 f2 f3 _, S.at_, S.no, by rw [List.length_append, List.length_append, S.len]; rfl, by rw [upd_same, List.map_append]; rfl, fun a h => ?_, ?_, fun j g a h1 h2 => ?_⟩
  · rcases h with h | h
    · exact S.far a (.inl h)
    · rcases List.mem_append.mp h with h | h
      · exact S.far a (.inr h)
      · rw [List.mem_singleton.mp h]
        exact ⟨fq.1, fq.2, farq⟩
  · have nd := List.nodup_cons.mp S.nd
    rw [List.nodup_cons]
    refine ⟨fun h => ?_, ?_⟩
    · rcases List.mem_append.mp h with h | h
      · exact nd.1 h
      · exact notin.1 (List.mem_singleton.mp h).symm
    · rw [List.nodup_append]
      exact ⟨nd.2, by simp, fun x hx y hy e => notin.2 (by rw [← List.mem_singleton.mp hy, ← e]; exact hx)⟩
  · by_cases c : j < m.length
    · rw [List.getElem?_append_left c] at h1
      rw [List.getElem?_append_left (by rw [S.len]; exact c)] at h2
      have ha : a ∈ qs := List.mem_of_getElem? h2
      have n1 : a ≠ p := fun e => (List.nodup_cons.mp S.nd).1 (e ▸ ha)
      have n2 : a ≠ q := fun e => notin.2 (e ▸ ha)
      rw [upd_ne n1, upd_ne n2]
      exact S.rows j g a h1 h2
    · rw [List.getElem?_append_right (by omega)] at h1
      rw [List.getElem?_append_right (by rw [S.len]; omega), S.len] at h2
      obtain ⟨hj, e1⟩ := List.getElem?_eq_some_iff.mp h1
      have e0 : j - m.length = 0 := by simpa using hj
      rw [e0] at h1 h2
      cases h1; cases h2
      rw [upd_ne notin.1, upd_same]
      rfl
theorem reps_strsG (g : List Str) : Reps G F (g.map .str) (g.map V.str) := by
  induction g with
  | nil => rfl
  | cons s r ih => exact ⟨_, _, rfl, rfl, ih⟩
/-- all are given away -/
theorem Gs.done (S : Gs G F0 H0 ρ F σ H i p qs m) : ∃ F', Same F F' ∧ Rel G F0 H0 (ρ.set i (.ol (grpD m))) F' σ H := by
  suffices K : ∀ k, k ≤ m.length → ∃ F', Same F F' ∧ Rel G F0 H0 ρ F' σ H ∧ (∀ a, a = p ∨ a ∈ qs.drop k → F' a = none) ∧ Reps G F' (grpD (m.take k)) ((qs.take k).map V.ref) by
    obtain ⟨F', s, R, f, r⟩ := K m.length (Nat.le_refl _)
    rw [List.take_of_length_le (Nat.le_refl _), List.take_of_length_le (by rw [S.len]; exact Nat.le_refl _)] at r
    obtain ⟨h0, _, fa⟩ := S.far p (.inl rfl)
    exact ⟨F', s, R.recall S.at_ h0 (f p (.inl rfl)) fa S.hp r⟩
  intro k
  induction k with
  | zero => exact fun _ => ⟨F, Same.refl _, S.rel, fun a h => (S.far a (by rw [List.drop_zero] at h; exact h)).2.1, rfl⟩
  | succ k ih =>
    intro hk
    obtain ⟨F', s, R, f, r⟩ := ih (by omega)
    have lq := S.len
    obtain ⟨g, hg⟩ : ∃ g, m[k]? = some g := ⟨_, List.getElem?_eq_getElem (by omega)⟩
    obtain ⟨q, hq⟩ : ∃ q, qs[k]? = some q := ⟨_, List.getElem?_eq_getElem (by omega)⟩
    have row := S.rows k g q hg hq
    have hqm := List.mem_of_getElem? hq
    obtain ⟨h0, _, fa⟩ := S.far q (.inr hqm)
    have ed : qs.drop k = q :: qs.drop (k + 1) := by
      rw [List.drop_eq_getElem_cons (by omega), (List.getElem?_eq_some_iff.mp hq).2]
    have fq : F' q = none := f q (.inr (by rw [ed]; exact List.mem_cons_self))
    have s2 : Same F' (upd F' q (.lst (g.map V.str))) := same_upd fq
    have nd := List.nodup_cons.mp S.nd
    refine ⟨upd F' q (.lst (g.map V.str)), s.trans s2, R.far_in h0 fq fa row, fun a h => ?_, ?_⟩
    · have hne : a ≠ q := by
        rcases h with h | h
        · intro e
          exact nd.1 (by rw [← h, e]; exact hqm)
        · intro e
          have nd2 := nd.2.sublist (List.drop_sublist k qs)
          rw [ed, List.nodup_cons] at nd2
          exact nd2.1 (e ▸ h)
      rw [upd_ne hne]
      rcases h with h | h
      · exact f a (.inl h)
      · exact f a (.inr (by rw [ed]; exact List.mem_cons_of_mem _ h))
    · rw [List.take_succ, List.take_succ, hg, hq]
      unfold grpD at r ⊢
      rw [List.map_append, List.map_append]
      exact (r.mono s2).append ⟨_, [], rfl, ⟨q, _, rfl, .inl upd_same, reps_strsG g⟩, rfl⟩
end
theorem rows_reps {G : Gx} {H : Hp} : ∀ (m : List (List Str)) {qs : List Addr}, qs.length = m.length → (∀ (j : Nat) (g : List Str) (q : Addr), m[j]? = some g → qs[j]? = some q → H q = some (.lst (g.map V.str))) → Reps G H (grpD m) (qs.map V.ref)
  | [], qs, h, _ => by
    have : qs = [] := List.eq_nil_of_length_eq_zero h
    rw [this]
    rfl
  | g :: r, [], h, _ => by cases h
  | g :: r, q :: w, h, k => ⟨.ref q, w.map V.ref, rfl, ⟨q, _, rfl, .inl (k 0 g q rfl rfl), reps_strsG g⟩, rows_reps r (by simpa using h) fun j g' q' h1 h2 => k (j + 1) g' q' h1 h2⟩
theorem pls_strs : ∀ (n : Nat) (g : List Str), D.pls n (g.map .str) = true
  | _, [] => by simp [D.pls]
  | n, s :: r => by simp [D.pls, D.pl, pls_strs n r]
theorem pls_grp : ∀ (n : Nat) (m : List (List Str)), D.pls (n + 1) (grpD m) = true
  | _, [] => by simp [D.pls, grpD]
  | n, g :: r => by
    have ih := pls_grp n r
    unfold grpD at ih ⊢
    simp [D.pls, D.pl, pls_strs, ih]
theorem made_ne (m : List (List Str)) : notR (eqR (.lst (grpD m)) (.lst [])) = .ok (decide (m ≠ [])) := by
  unfold eqR
  have h1 : D.pl NEST (.lst (grpD m)) = true := by
    show D.pl (18 + 1 + 1) _ = true
    rw [D.pl]
    exact pls_grp 18 m
  have h2 : D.pl NEST (.lst []) = true := by
    show D.pl (19 + 1) _ = true
    rw [D.pl, D.pls]
  rw [h1, h2]
  cases m with
  | nil => simp [eqb, grpD, D.toP, D.toPs, PyData.eqv, PyData.eqvAll, notR, R.map]
  | cons g r => simp [eqb, grpD, D.toP, D.toPs, PyData.eqv, PyData.eqvAll, notR, R.map]
theorem envK_some {ρ : En} {i e o : Nat} {z : Int} {l : Option D} {d : D} : (envK ρ i e o z l).set o (.v d) = envK ρ i e o z (some d) := by
  cases l with
  | none => rfl
  | some d' => exact List.set_set ..
theorem envK_end {ρ : En} {i e o : Nat} (heo : e ≠ o) {z z' : Int} {d : D} : (envK ρ i e o z (some d)).set e (.v (.int z')) = envK ρ i e o z' (some d) := by
  unfold envK
  rw [List.set_comm _ _ heo.symm, List.set_set]
theorem take_last {ds : List D} {k : Nat} {d : D} (h : ds[k]? = some d) : (ds.take (k + 1)).getLast? = some d := by
  rw [List.take_succ, h]
  simp
theorem grp_len {m : List (List Str)} {z b : Int} {n : Str} {k : Nat} (h1 : m.length ≤ k) (h2 : ∀ g ∈ m, g.length ≤ k) : (grpStep m z b n).length ≤ k + 1 ∧ ∀ g ∈ grpStep m z b n, g.length ≤ k + 1 := by
  unfold grpStep
  split
  · rename_i c
    have hl : 0 < m.length := List.length_pos_iff.mpr c.1
    refine ⟨by rw [List.length_append, List.length_dropLast, List.length_singleton]; omega, fun g hg => ?_⟩
    rcases List.mem_append.mp hg with hg | hg
    · have := h2 g (List.dropLast_subset m hg)
      omega
    · rw [List.mem_singleton.mp hg, List.length_append, List.length_singleton, List.getLastD_eq_getLast?, List.getLast?_eq_some_getLast c.1]
      have := h2 _ (List.getLast_mem c.1)
      show (m.getLast c.1).length + 1 ≤ k + 1
      omega
  · refine ⟨by rw [List.length_append, List.length_singleton]; omega, fun g hg => ?_⟩
    rcases List.mem_append.mp hg with hg | hg
    · have := h2 g hg
      omega
    · rw [List.mem_singleton.mp hg, List.length_singleton]
      omega
section
variable {X : Cx} {Wx : WX}
theorem s_grp {i e o : Nat} (hio : i ≠ o) (hie : i ≠ e) (heo : e ≠ o) {mn : Str} {tg etg iter c2 a0 a1 mx : Expr} {TM : TE} {p1 p2 p3 p4 p5 p6 p7 p8 p9 p10 apos cpos apos2 cpos2 q1 q2 q3 q4 pos : Pos} {kk : Nat}
    {fi : En → R (List D × Bool)} {flt : En → R Bool} {fa fb fm : En → R W} (po : PassesOwn (model X.prog X.w) X.A X.env X.xe) (hc : X.calm = true) (hu : X.A.units + 64 < cLine)
    (hi : PI X tg iter (iD (gx X) Wx fi)) (hg : PG X tg (gName o)) (hs : ∀ v, foldedSetIterable iter X.env v = pure v)
    (hm : ∀ p, PE X (.Name mn p) (tVar i))
    (hlt : PT X c2 (tTt (gx X) Wx flt)) (h0 : PE X a0 (tD (gx X) Wx fa)) (h1 : PE X a1 (tD (gx X) Wx fb)) (M : PS X (.Assign [etg] mx q4) (tAsg TM (gName e))) (hTM : ∀ σ H Q, tD (gx X) Wx fm σ H Q → TM σ H Q)
    (n0 : nst a0 = true) (n1 : nst a1 = true) (l1 : (apos.endLine == cpos.line) = true) (l2 : (apos2.endLine == cpos2.line) = true)
    (vlt : ∀ ρ n b f z, ρ.getD o .no = .v (.tup [.str n, .int b, .int f]) → ρ.getD e .no = .v (.int z) → flt ρ = .ok (decide (b < z)))
    (va : ∀ ρ n b f, ρ.getD o .no = .v (.tup [.str n, .int b, .int f]) → fa ρ = .ok (.d (.str n)))
    (vb : ∀ ρ n b f, ρ.getD o .no = .v (.tup [.str n, .int b, .int f]) → fb ρ = .ok (.d (.str n)))
    (vm : ∀ ρ n b f z, ρ.getD o .no = .v (.tup [.str n, .int b, .int f]) → ρ.getD e .no = .v (.int z) → fm ρ = .ok (.d (.int (max z f)))) :
    PS X (.For tg iter [.If (.BoolOp .And [.Compare (.Name mn p1) [.NotEq] [.List [] p2] p3, c2] p4)
        [.Expr (.Call (.Attribute (.Subscript (.Name mn p5) (.UnaryOp .USub (.Constant (.int 1) kk p6) p7) p8) "append" apos) [a0] [] cpos) q1]
        [.Expr (.Call (.Attribute (.Name mn p9) "append" apos2) [.List [a1] p10] [] cpos2) q2] q3, .Assign [etg] mx q4] [] pos)
      (tS (gx X) Wx fun ρ => outR (fi ρ) ρ fun dsb => if dsb.2 = true then .stuck else grpEv i e o dsb.1 ρ) := by
  have T := (pw_and (pos := p4) (pt_cmpR (pos := p3) (ne_ok hu) (hm p1) (pe_lst (pos := p2) pa_nil) rfl) (pw_and1 (pos := p4) hlt)).pt
  have A : PS X (.Expr (.Call (.Attribute (.Subscript (.Name mn p5) (.UnaryOp .USub (.Constant (.int 1) kk p6) p7) p8) "append" apos) [a0] [] cpos) q1) _ :=
    ps_expr (pe_bm PySem.F.plainAttrs_list PySem.F.slot_list_append PySem.F.type_list_append mt_append (pe_ix ix_list (hm p5) (pe_un un_neg pe_int) (fun _ _ => rfl)) (pa_cons h0 pa_nil (starEach_cons n0)) rfl (by rw [starEach_cons n0]; rfl) l1 (starEach_cons n0) rfl) rfl
  have Bx : PS X (.Expr (.Call (.Attribute (.Name mn p9) "append" apos2) [.List [a1] p10] [] cpos2) q2) _ :=
    ps_expr (pe_bm PySem.F.plainAttrs_list PySem.F.slot_list_append PySem.F.type_list_append mt_append (hm p9) (pa_cons (pe_lst (pa_cons h1 pa_nil (starEach_cons n1))) pa_nil rfl) rfl rfl l2 rfl rfl) rfl
  refine PS_imp (ps_for po hc hi hg (pss_cons (ps_if (pos := q3) T (pss_cons A pss_nil) (pss_cons Bx pss_nil)) (pss_cons M pss_nil)) hs) fun D σ H h => ?_
  obtain ⟨F0, H0, F, ρ, R, h⟩ := tS_iff.mp h
  refine ⟨F0, H0, F, ρ, R, (Fin.out h R).imp (fun dsb _ k => ?_) fun _ h => h⟩
  intro F1 H1 J B E1 sB sB2 jok
  obtain ⟨ds, lb⟩ := dsb
  cases lb with
  | true => exact (show False from k).elim
  | false =>
    have k : Fin (gx X) Wx F0 H0 F1 D (grpEv i e o ds ρ) := Fin.mono k E1.ff
    have sBF := sB2 rfl
    unfold grpEv at k
    split at k
    · rename_i z e1 e2
      split at k
      · rename_i hsz
        split at k
        · rename_i mF zF eg
          have R1 := R.ext E1
          obtain ⟨p, vs, q, qs, n0', f0', hp, r⟩ := own_list R1 e1
          have ei : i < ρ.length := (List.getElem?_eq_some_iff.mp q).1
          have eqe := getD_of e2 (by intro z; cases z)
          have vnil : vs = [] := r
          subst vnil
          have eK : envK ρ i e o z none = ρ.set i .no := by
            show (ρ.set i .no).set e (.v (.int z)) = ρ.set i .no
            apply List.ext_getElem?
            intro j
            by_cases c : e = j
            · subst c
              rw [List.getElem?_set_self (by rw [List.length_set]; exact (List.getElem?_eq_some_iff.mp eqe).1), List.getElem?_set_ne hie, eqe]
            · rw [List.getElem?_set_ne c]
          have G0 : Gs (gx X) F0 H0 (envK ρ i e o z none) F1 σ H1 i p [] [] := by
            rw [eK]
            refine ⟨R1.forget i, qs, by rw [List.getElem?_set_self ei], rfl, hp, fun a h => ?_, by simp, fun j g q h1 _ => by simp at h1⟩
            rcases h with rfl | h
            · refine ⟨n0', f0', fun j s hj hs hσ => ?_⟩
              rcases set_at hj with ⟨_, y⟩ | ⟨n, hj⟩
              · subst y; cases hs
              · exact R1.sep i j a _ s n q hj rfl hs qs hσ
            · cases h
          refine ⟨fun k m σ H => ∃ F' mm zz qs, Gs (gx X) F0 H0 (envK ρ i e o zz (ds.take k).getLast?) F' σ H i p qs mm ∧ Same F1 F' ∧ k + m = ds.length ∧ grpL mm zz (ds.drop k) = some (mF, zF) ∧ mm.length ≤ k ∧ ∀ g ∈ mm, g.length ≤ k,
            ⟨ds.length, F1, [], z, [], G0, Same.refl _, by omega, eg, Nat.le_refl _, fun g hg => absurd hg List.not_mem_nil⟩, fun kx m σ2 H2 hw => ?_⟩
          obtain ⟨F', mm, zz, qs2, S, s1, em, eg2, lm, lg⟩ := hw
          have jk := jok F' H2 s1 S.rel.fh (sBF.trans (s1.trans S.rel.fh))
          by_cases hlt2 : kx < ds.length
          · have edrop : ds.drop kx = ds[kx] :: ds.drop (kx + 1) := List.drop_eq_getElem_cons hlt2
            have ekx : ds[kx]? = some ds[kx] := List.getElem?_eq_getElem hlt2
            obtain ⟨jg, jy⟩ := jk.1 kx ds[kx] ekx
            refine .inr ⟨jg, fun σ H => ∃ m', m' < m ∧ ∃ F' mm zz qs, Gs (gx X) F0 H0 (envK ρ i e o zz (ds.take (kx + 1)).getLast?) F' σ H i p qs mm ∧ Same F1 F' ∧ (kx + 1) + m' = ds.length ∧ grpL mm zz (ds.drop (kx + 1)) = some (mF, zF) ∧ mm.length ≤ kx + 1 ∧ ∀ g ∈ mm, g.length ≤ kx + 1, fun σ' H' z => z, fun v Hy y => ?_⟩
            obtain ⟨F2, E2, rv⟩ := jy v Hy y
            rw [edrop] at eg2
            unfold grpL at eg2
            rw [take_last ekx]
            split at eg2
            · rename_i n b f ed
              rw [ed] at rv
              have S2 := (S.ext E2).setv hio rv
              rw [envK_some] at S2
              have s2 := s1.trans E2.ff
              rw [ed]
              generalize hρ : envK ρ i e o zz (some (.tup [.str n, .int b, .int f])) = ρ1 at S2
              have lo : o < ρ.length := hsz.2
              have go : ρ1.getD o .no = .v (.tup [.str n, .int b, .int f]) := by
                rw [← hρ, List.getD_eq_getElem?_getD]
                show ((((ρ.set i .no).set e (.v (.int zz))).set o _)[o]?).getD _ = _
                rw [List.getElem?_set_self (by rw [List.length_set, List.length_set]; exact lo)]
                rfl
              have ge : ρ1.getD e .no = .v (.int zz) := by
                rw [← hρ, List.getD_eq_getElem?_getD]
                show ((((ρ.set i .no).set e (.v (.int zz))).set o _)[e]?).getD _ = _
                rw [List.getElem?_set_ne heo.symm, List.getElem?_set_self (by rw [List.length_set]; exact (List.getElem?_eq_some_iff.mp eqe).1)]
                rfl
              -- behind the test and its branch
              have rest : ∀ {mm' : List (List Str)} {qs' : List Addr} {F3 H3 : Hp}, mm' = grpStep mm zz b n → Gs (gx X) F0 H0 ρ1 F3 (σ2.set o (some v)) H3 i p qs' mm' → Same F1 F3 →
                  tSeq (tAsg TM (gName e)) tNext { D with nx := fun σ H => ∃ m', m' < m ∧ ∃ F' mm zz qs, Gs (gx X) F0 H0 (envK ρ i e o zz (some (.tup [.str n, .int b, .int f]))) F' σ H i p qs mm ∧ Same F1 F' ∧ (kx + 1) + m' = ds.length ∧ grpL mm zz (ds.drop (kx + 1)) = some (mF, zF) ∧ mm.length ≤ kx + 1 ∧ ∀ g ∈ mm, g.length ≤ kx + 1, ct := fun σ H => ∃ m', m' < m ∧ ∃ F' mm zz qs, Gs (gx X) F0 H0 (envK ρ i e o zz (some (.tup [.str n, .int b, .int f]))) F' σ H i p qs mm ∧ Same F1 F' ∧ (kx + 1) + m' = ds.length ∧ grpL mm zz (ds.drop (kx + 1)) = some (mF, zF) ∧ mm.length ≤ kx + 1 ∧ ∀ g ∈ mm, g.length ≤ kx + 1, bk := D.nx } (σ2.set o (some v)) H3 := by
                intro mm' qs' F3 H3 emm S3 s3
                refine hTM _ _ _ ⟨F0, H0, F3, ρ1, S3.rel, ?_⟩
                rw [vm ρ1 n b f zz go ge]
                intro F4 H4 v4 E4 w4
                have r4 : Rep (gx X) F4 (.int (max zz f)) v4 := w4
                have S4 := (S3.ext E4).setv hie r4
                rw [← hρ, envK_end heo] at S4
                obtain ⟨g1, g2⟩ := grp_len (z := zz) (b := b) (n := n) lm lg
                exact ⟨m - 1, by omega, F4, mm', max zz f, qs', S4, s3.trans E4.ff, by omega, by rw [emm]; exact eg2, by rw [emm]; exact g1, by rw [emm]; exact g2⟩
              -- the test
              show tSeq _ _ _ (σ2.set o (some v)) Hy
              refine ⟨.ref p, S2.at_, ?_⟩
              refine ⟨by show 0 ≤ sizeLine; omega, fun dn hdn => ?_⟩
              have E3 : Ext F2 Hy F2 (upd Hy dn (.lst [])) := Ext.own E2.fh hdn
              have S3 := S2.ext E3
              have mrep : Reps (gx X) (upd Hy dn (.lst [])) (grpD mm) (qs2.map V.ref) := rows_reps mm S3.len S3.rows
              refine ⟨upd Hy dn (.lst []), .lst (grpD mm), .lst [], Same.refl _, ⟨p, _, rfl, .inl S3.hp, mrep⟩, ⟨dn, [], rfl, .inl upd_same, rfl⟩, ?_⟩
              show Out (notR (eqR (.lst (grpD mm)) (.lst []))) _ _
              rw [made_ne]
              refine ⟨_, rfl, ?_⟩
              -- a new list
              have brB : ∀ {E' : L2.Ends} {F5 H5 : Hp}, (∀ {mm' : List (List Str)} {qs' : List Addr} {F3 H3 : Hp}, mm' = grpStep mm zz b n → Gs (gx X) F0 H0 ρ1 F3 (σ2.set o (some v)) H3 i p qs' mm' → Same F1 F3 → E'.nx (σ2.set o (some v)) H3) → Gs (gx X) F0 H0 ρ1 F5 (σ2.set o (some v)) H5 i p qs2 mm → Same F1 F5 → grpStep mm zz b n = mm ++ [[n]] → tSeq (tDrop (tBM X.K "list" rAppend (tVar i) (tCons (tLst (tCons (tD (gx X) Wx fb) tNil)) tNil))) tNext E' (σ2.set o (some v)) H5 := by
                intro E' F5 H5 hE S5 s5 est
                refine ⟨.ref p, S5.at_, .inl ⟨rfl, _, .inl (.inl S5.hp)⟩, ?_⟩
                refine ⟨F0, H0, F5, ρ1, S5.rel, ?_⟩
                rw [vb ρ1 n b f go]
                intro F6 H6 v6 E6 w6
                have e6 : v6 = .str n := w6
                subst e6
                have S6 := S5.ext E6
                refine ⟨by show 1 ≤ sizeLine; decide, fun qn hqn => ?_⟩
                have nqp : p ≠ qn := fun e => by
                  have := S6.hp
                  rw [e, hqn] at this
                  cases this
                refine ⟨p, qs2.map V.ref, .ref qn, rfl, rfl, by rw [upd_ne nqp]; exact S6.hp, ?_, ?_⟩
                · rw [List.length_map, S6.len]
                  have h2 : (SIZE : Nat) < sizeLine := by decide
                  have := hsz.1
                  omega
                · exact hE est.symm (S6.more n hqn) (s5.trans E6.ff)
              by_cases c1 : mm = []
              · have hd : decide (mm ≠ []) = false := by simp [c1]
                rw [hd]
                exact brB (fun a b c => rest a b c) S3 (s2.trans E3.ff) (by unfold grpStep; rw [if_neg (fun h => h.1 c1)])
              · have hd : decide (mm ≠ []) = true := by simp [c1]
                rw [hd]
                refine ⟨F0, H0, F2, ρ1, S3.rel, ?_⟩
                rw [vlt ρ1 n b f zz go ge]
                intro F4 H4 E4
                have S4 := S3.ext E4
                have s4 := (s2.trans E3.ff).trans E4.ff
                by_cases c2' : b < zz
                · have hd2 : decide (b < zz) = true := decide_eq_true c2'
                  rw [hd2]
                  obtain ⟨ql, a1', a2', _⟩ := S4.grow c1 n
                  refine ⟨.ref p, S4.at_, 1, rfl, p, qs2.map V.ref, -1, .ref ql, rfl, rfl, .inl (.inl S4.hp), a1', .inl ⟨rfl, _, .inl (.inl a2')⟩, ?_⟩
                  refine ⟨F0, H0, F4, ρ1, S4.rel, ?_⟩
                  rw [va ρ1 n b f go]
                  intro F5 H5 v5 E5 w5
                  have e5 : v5 = .str n := w5
                  subst e5
                  have S5 := S4.ext E5
                  obtain ⟨q', b1, b2, S6⟩ := S5.grow c1 n
                  have eqq : ql = q' := by
                    rw [a1'] at b1
                    cases b1
                    rfl
                  subst eqq
                  refine ⟨ql, _, .str n, rfl, rfl, b2, ?_, ?_⟩
                  · rw [List.length_map]
                    have h2 : (SIZE : Nat) < sizeLine := by decide
                    have h3 := hsz.1
                    have : (mm.getLastD []).length ≤ kx := by
                      rw [List.getLastD_eq_getLast?, List.getLast?_eq_some_getLast c1]
                      exact lg _ (List.getLast_mem c1)
                    omega
                  · exact rest (by unfold grpStep; rw [if_pos ⟨c1, c2'⟩]) S6 (s4.trans E5.ff)
                · have hd2 : decide (b < zz) = false := decide_eq_false c2'
                  rw [hd2]
                  exact brB (fun a b c => rest a b c) S4 s4 (by unfold grpStep; rw [if_neg (fun h => c2' h.2)])
            · cases eg2
          · have ee : kx = ds.length := by omega
            subst ee
            rw [List.drop_length] at eg2
            have eg2 : some (mm, zz) = some (mF, zF) := eg2
            cases eg2
            rw [List.take_of_length_le (Nat.le_refl _)] at S
            obtain ⟨F'', s'', R''⟩ := S.done
            exact .inl ⟨jk.2, k F'' σ2 H2 R'' (s1.trans s'')⟩
        · exact k.elim
      · exact k.elim
    · exact k.elim
end
end G81
end
section
set_option Elab.async false
set_option linter.all false
set_option maxHeartbeats 4000000
namespace G81
open PySem PySem.Spec PyProof.Rows L2
section
variable {X : Cx} {Wx : WX}
/-- what the clause does: it tells the slot j -/
def tTell (j : Nat) : TS := fun D σ H => tVar j σ H D.rt
theorem s_tryr {j : Nat} {cs : List Str} {c : Value} {st : Stmt} {fb : En → Fl} (h : PS X st (fun D σ H => tS (gx X) (wOnly X.K c (fun _ _ _ => tTell j) Wx D) fb D σ H))
    (hx : ∀ c' ∈ cs, ∀ C, X.mg c' = some (.ref C) → PySem.W.exmOne X.K (.ref C) c = some true) : PS X st (tS (gx X) Wx fun ρ => tryrEv j cs (fb ρ)) :=
  PS_imp h fun D σ H q => by
    obtain ⟨F0, H0, F, ρ, R, q⟩ := tS_iff.mp q
    refine tS_iff.mpr ⟨F0, H0, F, ρ, R, ?_⟩
    unfold tryrEv at q
    cases hv : fb ρ with
    | nx ρ1 => rw [hv] at q; exact q
    | bk ρ1 => rw [hv] at q; exact q
    | ct ρ1 => rw [hv] at q; exact q
    | rt w => rw [hv] at q; exact q
    | stuck => rw [hv] at q; exact q
    | exc c' ρ1 =>
      rw [hv] at q
      dsimp only at q
      split at q
      · rename_i hc
        split at q
        · rename_i d hd
          intro F' σ' H' C R' sF hm
          refine ⟨true, hx c' hc C hm, fun _ a na => ?_, fun z => nomatch z⟩
          obtain ⟨v, e1, r⟩ := R'.val j d (getD_of hd (by intro z; cases z))
          exact ⟨v, e1, q F' H' v R'.out r⟩
        · exact q.elim
      · exact q.elim
theorem ps_tryr {x n : Str} {c : Value} {j : Nat} {body : List Stmt} {np np2 rp pos pos' : Pos} {tb : WX → TS} (hs : X.stack = X.env :: X.outer) (hf : X.env.frame = some X.env.locals) (hj : X.N[j]? = some n) (hjn : X.env.kindOf n = some .local) (hdn : (n == ("__debug__" : Str)) = false) (hdc : (n == ("__classdict__" : Str)) = false) (hc : Names X x c) (tk : L2N.Takes X Wx)
    (hb : ∀ (W : WX) (pn : List (Addr × Obj)) (xe : Value → Shared → Prop), L2N.Takes (X.tr pn xe) W → PassesOwn (model X.prog X.w) X.A X.env xe → PSs (X.tr pn xe) body (tb W)) :
    PS X (.Try body [.ExceptHandler (some (.Name x np)) none [.Return (some (.Name n np2)) rp] pos'] [] [] pos) (fun D σ H => tb (wOnly X.K c (fun _ _ _ => tTell j) Wx D) D σ H) :=
  PS_imp (L2N.ps_try_many (l := [(c, fun _ _ _ => tTell j)]) hs hf tk hb (.cons hc (fun a oe cls d pn _ _ => pss_cons (ps_ret (pe_var (X := X.suite a ((a, oe) :: pn)) hj (.inl hjn) hdn hdc)) pss_nil) .nil)) fun D σ H q => q
end
end G81
end
section
set_option Elab.async false
set_option linter.all false
set_option maxHeartbeats 4000000
namespace G81
open PySem PySem.Spec L2
/-- no comprehension -/
def nlc (e : Expr) : Bool :=
  match e with
  | .ListComp _ _ _ _ => false
  | .SetComp _ _ _ _ => false
  | .DictComp _ _ _ _ _ => false
  | _ => true
def ntup (e : Expr) : Bool :=
  match e with
  | .Tuple _ _ _ => false
  | _ => true
def isLocal (sc : Scope) (e : Expr) (l : Nat) : Bool :=
  match e with
  | .Name y p => decide (sc.names.lookup y = some .local) && (p.line == l)
  | _ => false
def lineOf (ts : List Expr) : Nat := (ts.head?.map (·.pos.line)).getD 0
def nameOf (e : Expr) : Str :=
  match e with
  | .Name y _ => y
  | _ => "__debug__"
/-- a, b = x, y without a tuple -/
def swB (sc : Scope) (ts vs : List Expr) : Bool :=
  (ts.length == 2 || ts.length == 3) && ts.all (fun t => isLocal sc t (lineOf ts)) && decide ((ts.map nameOf).Nodup) && vs.all nst && !vs.all (foldedForSure 8) && !vs.all (constantsAlone 8) && decide (ts.length = vs.length)
def swN (sc : Scope) (ts vs : List Expr) : Bool :=
  (ts.length == 2 || ts.length == 3) && decide (ts.length = vs.length) && vs.all nst && (ts.any (fun t => match t with
    | .Name y _ => !decide (sc.names.lookup y = some .local)
    | _ => false))
/-- a core whose list is not laid by its name at once -/
def C.sw : C → Bool
  | .compk _ _ _ _ _ => false
  | .compf _ _ _ _ _ => false
  | .compx _ _ _ _ _ => false
  | _ => true
mutual
def ckS (x : Ctx) : S → Stmt → Bool
  | .asg g e, st => (match st with
    | .Assign [tg] v _ => nst tg && ckP x g tg && (ck x e v && e.sw) && (match g with
      | .one _ => true
      | .tup _ => ntup v
      | .tup2 _ _ => false)
    | _ => false)
  | .keep i e, st => (match st with
    | .Assign [tg] v _ => ckP x (.one i) tg && (ck x e v && e.sw)
    | _ => false)
  | .par is es, st => (match st with
    | .Assign [.Tuple ts _ _] (.Tuple vs _ _) _ => calmB x (ckNames x is ts) && ckAs x es vs && (swB x.sc ts vs || swN x.sc ts vs)
    | _ => false)
  | .app i e, st => (match st with
    | .Expr (.Call (.Attribute (.Name y _) m apos) [a] [] cpos) _ => decide (m = "append") && decide (x.N[i]? = some y) && okName y && isVis x.sc y && nst a && ck x e a && (apos.endLine == cpos.line)
    | _ => false)
  | .ext i e, st => (match st with
    | .Expr (.Call (.Attribute (.Name y _) m apos) [a] [] cpos) _ => decide (m = "extend") && decide (x.N[i]? = some y) && okName y && isVis x.sc y && nst a && ck x e a && (apos.endLine == cpos.line)
    | _ => false)
  | .put i k v, st => (match st with
    | .Assign [.Subscript (.Name y _) ek _] ev _ => decide (x.N[i]? = some y) && okName y && isVis x.sc y && nst ek && ck x k ek && ck x v ev
    | _ => false)
  | .ex e, st => (match st with
    | .Expr v _ => nlc v && ck x e v
    | _ => false)
  | .ret e, st => (match st with
    | .Return (some v) _ => ck x e v
    | _ => false)
  | .ret0, st => (match st with
    | .Return none _ => true
    | _ => false)
  | .ife t a b, st => (match st with
    | .If t' a' b' _ => t.tst && ck x t t' && ckSs x a a' && ckSs x b b'
    | _ => false)
  | .for g it b, st => (match st with
    | .For tg iter body [] _ => calmB x (ckP x g tg) && ckIt x it tg iter && ckSs x b body
    | _ => false)
  | .while t b, st => (match st with
    | .While t' body [] _ => t.tst && ck x t t' && ckSs x b body
    | _ => false)
  | .raise c, st => (match st with
    | .Raise (some (.Call (.Name y _) [.Constant (.str _) _ _] [] _)) none _ => decide (y = c) && okName y && calmB x (isGlob x.sc y) && decide (y ∈ x.cls) && x.own.isNone
    | _ => false)
  | .brk, st => (match st with
    | .Break _ => true
    | _ => false)
  | .cnt, st => (match st with
    | .Continue _ => true
    | _ => false)
  | .pass, st => (match st with
    | .Pass _ => true
    | _ => false)
  | .mv i j, st => (match st with
    | .Assign [tg] (.Name y _) _ => ckP x (.one i) tg && (decide (x.N[j]? = some y) && okName y && isVis x.sc y)
    | _ => false)
  | .ins i kc e, st => (match st with
    | .Expr (.Call (.Attribute (.Name y _) m apos) [kx, a] [] cpos) _ => decide (m = "insert") && decide (x.N[i]? = some y) && okName y && isVis x.sc y && nst kx && nst a && ck x kc kx && ck x e a && (apos.endLine == cpos.line)
    | _ => false)
  | .dpop i kc, st => (match st with
    | .Expr (.Call (.Attribute (.Name y _) m apos) [kx] [] cpos) _ => decide (m = "pop") && decide (x.N[i]? = some y) && okName y && isVis x.sc y && nst kx && ck x kc kx && (apos.endLine == cpos.line)
    | _ => false)
  | .dpopd i kc, st => (match st with
    | .Expr (.Call (.Attribute (.Name y _) m apos) [kx, .Constant .none _ _] [] cpos) _ => decide (m = "pop") && decide (x.N[i]? = some y) && okName y && isVis x.sc y && nst kx && ck x kc kx && (apos.endLine == cpos.line)
    | _ => false)
  | .grp i e o it, st => (match st with
    | .For tg iter [.If (.BoolOp .And [.Compare (.Name mn _) [.NotEq] [.List [] _] _, c2] _) [.Expr (.Call (.Attribute (.Subscript (.Name mn2 _) (.UnaryOp .USub (.Constant (.int one) _ _) _) _) app apos) [a0] [] cpos) _] [.Expr (.Call (.Attribute (.Name mn3 _) app2 apos2) [.List [a1] _] [] cpos2) _] _, .Assign [etg] mx _] [] _ =>
      (decide (i ≠ o) && decide (i ≠ e) && decide (e ≠ o) && decide (one = 1) && decide (app = "append") && decide (app2 = "append") && decide (mn2 = mn) && decide (mn3 = mn)) && (decide (x.N[i]? = some mn) && okName mn && isVis x.sc mn) &&
      (calmB x (ckP x (.one o) tg) && ckP x (.one e) etg && ckIt x it tg iter && ck x (.cmp .Lt (.ix (.var o) (.k (.int 1))) (.var e)) c2 && ck x (.ix (.var o) (.k (.int 0))) a0 && ck x (.ix (.var o) (.k (.int 0))) a1 && ck x (.bi .max (.cons (.var e) (.cons (.ix (.var o) (.k (.int 2))) .nil))) mx) &&
      (nst a0 && nst a1 && (apos.endLine == cpos.line) && (apos2.endLine == cpos2.line))
    | _ => false)
  | .tryk i k b cs, st => (match st with
    | .Try body [.ExceptHandler (some (.Name y _)) (some n) [.Assign [.Name kn _] (.Name n2 _) _] _] [] [] _ => decide (y = "SheetError") && isGlob x.sc y && decide (n2 = n) && decide (x.N[i]? = some n) && decide (x.N[k]? = some kn) && decide (i ≠ k) && decide (x.sc.names.lookup n = some .local) && decide (x.sc.names.lookup kn = some .local) && okName n &&
      (!cs.isEmpty && cs.all (fun c => decide (c ∈ x.cls))) && ckSs x b body
    | _ => false)
  | .tryr j b cs, st => (match st with
    | .Try body [.ExceptHandler (some (.Name y _)) none [.Return (some (.Name n _)) _] _] [] [] _ => decide (y = "SheetError") && isGlob x.sc y && decide (x.N[j]? = some n) && decide (x.sc.names.lookup n = some .local) && okName n &&
      (!cs.isEmpty && cs.all (fun c => decide (c ∈ x.cls))) && (ckSs x b body && x.own.isNone)
    | _ => false)
def ckSs (x : Ctx) : Ss → List Stmt → Bool
  | .nil, l => l.isEmpty
  | .cons s r, l => (match l with
    | st :: sts => ckS x s st && ckSs x r sts
    | [] => false)
end
section
variable {cl : Str → List D → R W} {gl : Str → Option D} {x : Ctx} {X : Cx} {Wx : WX}
theorem sw_no {e : Expr} {t : Option Expr} {l : Nat} {env : Env} (h : nlc e = true) : swapsWith e t l env = pure false := by
  cases e <;> first | rfl | cases h
theorem sw_any {e : Expr} {y : Str} {p : Pos} {l : Nat} {env : Env} : swapsWith e (some (.Name y p)) l env = pure false ∨ (swapsWith e (some (.Name y p)) l env = pure true ∧ env.kindOf y = some .local) := by
  by_cases h : nlc e = true
  · exact .inl (sw_no h)
  · have key : ∀ (q : Pos) (sc : Scope) (b : Sem Bool), b = pure (env.blockKind == .function && env.kindOf y == some .local && p.line == q.line && !(sc.names.any fun (n, k) => n == y && (k == .local || k == .cell))) →
        b = pure false ∨ (b = pure true ∧ env.kindOf y = some .local) := fun q sc b hb => by
      cases hk : (env.blockKind == .function && env.kindOf y == some .local && p.line == q.line && !(sc.names.any fun (n, k) => n == y && (k == .local || k == .cell))) with
      | false => rw [hk] at hb; exact .inl hb
      | true =>
        rw [hk] at hb
        simp only [Bool.and_eq_true, beq_iff_eq] at hk
        exact .inr ⟨hb, hk.1.1.2⟩
    cases e with
    | ListComp a b sc pos => exact key pos sc _ rfl
    | SetComp a b sc pos => exact key pos sc _ rfl
    | DictComp a b c sc pos => exact key pos sc _ rfl
    | _ => exact absurd rfl h
theorem sw_other {e tg : Expr} {l : Nat} {env : Env} (h : ∀ y p, tg ≠ .Name y p) : swapsWithSole [tg] e l env = pure false := by
  show swapsWith e (some tg) l env = pure false
  by_cases hn : nlc e = true
  · exact sw_no hn
  · cases tg <;> first | exact absurd rfl (h _ _) | (cases e <;> first | rfl | exact absurd rfl hn)
theorem ss_no {e tg : Expr} {env : Env} (h : ntup e = true ∨ (∀ a b c, tg ≠ .Tuple a b c) ∧ ∀ a b, tg ≠ .List a b) : swappedStores [tg] e env = pure none := by
  rcases h with h | h
  · cases e <;> first | (cases tg <;> rfl) | cases h
  · cases tg <;> first | exact absurd rfl (h.1 _ _ _) | exact absurd rfl (h.2 _ _) | (cases e <;> rfl)
/-- a name that is stored: both ways of a plain assignment -/
theorem one_ps {c : C} {i : Nat} {tg e : Expr} {pos : Pos} (h : CtxOk cl gl x X Wx) (hp : ckP x (.one i) tg = true) (k : ck x c e = true) (hsw : c.sw = true) :
    ∃ t, (∀ σ H Q, tD (gx X) Wx (evW cl gl c) σ H Q → t σ H Q) ∧ PS X (.Assign [tg] e pos) (tAsg t (gName i)) := by
  have pg := h.pt hp
  cases tg with
  | Name y p =>
    simp only [ckP, Bool.and_eq_true, decide_eq_true_eq] at hp
    have hN : X.N[i]? = some y := by rw [h.N]; exact hp.1
    have plain : swapsWith e (some (.Name y p)) pos.line X.env = pure false → ∃ t, (∀ σ H Q, tD (gx X) Wx (evW cl gl c) σ H Q → t σ H Q) ∧ PS X (.Assign [.Name y p] e pos) (tAsg t (gName i)) := fun hs =>
      ⟨_, fun _ _ _ q => q, ps_asg (snd c _ _ _ _ h k).1 pg hs (ss_no (.inr ⟨(fun _ _ _ z => by cases z), (fun _ _ z => by cases z)⟩))⟩
    rcases sw_any (e := e) (y := y) (p := p) (l := pos.line) (env := X.env) with hs | ⟨hs, hloc⟩
    · exact plain hs
    · by_cases hc : ∃ elt g it t own, c = .comp elt g it t own
      · obtain ⟨elt, g, it, t, own, rfl⟩ := hc
        obtain ⟨tt, i1, _, ps⟩ := snd_comp (sndI it) (sndO t) (snd elt) h k
        exact ⟨tt, i1, ps i y p pos hN hloc hs⟩
      · exfalso
        have hn : nlc e = true := by
          cases e <;> first
            | rfl
            | (exfalso
               cases c <;> first
                 | exact hc ⟨_, _, _, _, _, rfl⟩
                 | (cases hsw; done)
                 | (unfold ck at k; cases k; done)
                 | (rename_i d; unfold ck at k; cases d <;> cases k))
        rw [sw_no hn] at hs
        exact pure_ne hs
  | _ => cases hp
where
  pure_ne : (pure false : Sem Bool) ≠ pure true := fun e => by
    injection e with e
    cases e
theorem mv_ps {i j : Nat} {tg : Expr} {y : Str} {p pos : Pos} (h : CtxOk cl gl x X Wx) (hp : ckP x (.one i) tg = true) (e : x.N[j]? = some y) (o : okName y = true) (v : isVis x.sc y = true) : PS X (.Assign [tg] (.Name y p) pos) (tAsg (tVar j) (gName i)) := by
  have pg := h.pt hp
  cases tg with
  | Name z q => exact ps_asg (h.var e o v) pg (show swapsWith (.Name y p) (some (.Name z q)) pos.line X.env = pure false from sw_no rfl) (ss_no (.inl rfl))
  | _ => cases hp
theorem name_of_local {sc : Scope} {e : Expr} {l : Nat} (h : isLocal sc e l = true) : ∃ p, e = .Name (nameOf e) p ∧ sc.names.lookup (nameOf e) = some .local ∧ (p.line == l) = true := by
  cases e with
  | Name y p =>
    simp only [isLocal, Bool.and_eq_true, decide_eq_true_eq] at h
    exact ⟨p, rfl, h.1, h.2⟩
  | _ => cases h
theorem kind_block (h : X.Ok) : X.env.blockKind = .function := by
  unfold Env.blockKind
  rw [h.kind]
  rfl
theorem star_no : ∀ v : Expr, nst v = true → (match v with
  | .Starred .. => true
  | _ => false) = false := fun v h => by
  cases v <;> first | rfl | cases h
theorem sw_two {env : Env} {a b : Str} {p1 p2 pt pt2 : Pos} {kt k2 : Nat} {v1 v2 : Expr} (hb : env.blockKind = .function) (h1 : env.kindOf a = some .local) (h2 : env.kindOf b = some .local) (hl : (p2.line == p1.line) = true) (hne : a ≠ b)
    (n1 : nst v1 = true) (n2 : nst v2 = true) (f : [v1, v2].all (foldedForSure 8) = false) (g : [v1, v2].all (constantsAlone 8) = false) :
    swappedStores [.Tuple [.Name a p1, .Name b p2] kt pt] (.Tuple [v1, v2] k2 pt2) env = pure (some [a, b]) := by
  have s1 := star_no _ n1
  have s2 := star_no _ n2
  have hl' : p2.line = p1.line := by simpa using hl
  have hd : ([a, b] : List Str).eraseDups = [a, b] := by
    simp [List.eraseDups_cons, Ne.symm hne]
  unfold swappedStores
  simp only [List.length_cons, List.length_nil, hb, List.any_cons, List.any_nil, s1, s2, f, g, List.head?_cons, Option.map_some, Option.getD_some, List.filterMap_cons, List.filterMap_nil, h1, h2, Expr.pos, hl']
  simp [hd]
  rintro (h | h)
  · cases v1 <;> first | exact Bool.noConfusion h | exact Bool.noConfusion n1
  · cases v2 <;> first | exact Bool.noConfusion h | exact Bool.noConfusion n2
theorem sw_three {env : Env} {a b c : Str} {p1 p2 p3 pt pt2 : Pos} {kt k2 : Nat} {v1 v2 v3 : Expr} (hb : env.blockKind = .function) (h1 : env.kindOf a = some .local) (h2 : env.kindOf b = some .local) (h3 : env.kindOf c = some .local)
    (hl : (p2.line == p1.line) = true) (hl3 : (p3.line == p1.line) = true) (hn : ([a, b, c] : List Str).Nodup)
    (n1 : nst v1 = true) (n2 : nst v2 = true) (n3 : nst v3 = true) (f : [v1, v2, v3].all (foldedForSure 8) = false) (g : [v1, v2, v3].all (constantsAlone 8) = false) :
    swappedStores [.Tuple [.Name a p1, .Name b p2, .Name c p3] kt pt] (.Tuple [v1, v2, v3] k2 pt2) env = pure (some [a, b, c]) := by
  have s1 := star_no _ n1
  have s2 := star_no _ n2
  have s3 := star_no _ n3
  have hl' : p2.line = p1.line := by simpa using hl
  have hl3' : p3.line = p1.line := by simpa using hl3
  have hd : ([a, b, c] : List Str).eraseDups = [a, b, c] := by
    simp only [List.nodup_cons, List.mem_cons, List.not_mem_nil, or_false, not_or] at hn
    obtain ⟨⟨x1, x2⟩, x3, _⟩ := hn
    simp [List.eraseDups_cons, Ne.symm x1, Ne.symm x2, Ne.symm x3]
  unfold swappedStores
  simp only [List.length_cons, List.length_nil, hb, List.any_cons, List.any_nil, s1, s2, s3, f, g, List.head?_cons, Option.map_some, Option.getD_some, List.filterMap_cons, List.filterMap_nil, h1, h2, h3, Expr.pos, hl', hl3']
  simp [hd]
  rintro (h | h | h)
  · cases v1 <;> first | exact Bool.noConfusion h | exact Bool.noConfusion n1
  · cases v2 <;> first | exact Bool.noConfusion h | exact Bool.noConfusion n2
  · cases v3 <;> first | exact Bool.noConfusion h | exact Bool.noConfusion n3
end
end G81
end
section
set_option Elab.async false
set_option linter.all false
set_option maxHeartbeats 4000000
namespace G81
open PySem PySem.Spec L2
section
variable {cl : Str → List D → R W} {gl : Str → Option D} {x : Ctx} {X : Cx} {Wx : WX}
theorem sw_nloc {env : Env} {ts vs : List Expr} {kt k2 : Nat} {pt pt2 : Pos} (h : ts.any (fun t => match t with
    | .Name y _ => !decide (env.kindOf y = some .local)
    | _ => false) = true) : swappedStores [.Tuple ts kt pt] (.Tuple vs k2 pt2) env = pure none := by
  have lt : ∀ (l : Nat) (ts : List Expr), ts.any (fun t => match t with
      | .Name y _ => !decide (env.kindOf y = some .local)
      | _ => false) = true → (ts.filterMap fun
      | .Name id pos => if env.kindOf id == some .local && pos.line == l then some id else none
      | _ => none).length < ts.length := fun l ts => by
    have le : ∀ (ts : List Expr) , (ts.filterMap fun
      | .Name id pos => if env.kindOf id == some .local && pos.line == l then some id else none
      | _ => none).length ≤ ts.length := fun ts => List.length_filterMap_le _ _
    induction ts with
    | nil => intro h; cases h
    | cons t ts ih =>
      intro h
      rw [List.any_cons, Bool.or_eq_true] at h
      rw [List.length_cons]
      have h2 := le ts
      rcases h with h | h
      · cases t with
        | Name y p =>
          simp only [Bool.not_eq_true', decide_eq_false_iff_not] at h
          rw [List.filterMap_cons_none (by simp [h])]
          exact Nat.lt_succ_of_le h2
        | _ => cases h
      · have h3 := ih h
        rw [List.filterMap_cons]
        split
        · exact Nat.lt_succ_of_lt h3
        · rw [List.length_cons]
          exact Nat.succ_lt_succ h3
  unfold swappedStores
  simp only [pure_bind]
  split
  · rfl
  · split
    · rfl
    · have h1 := lt ((ts.head?.map (·.pos.line)).getD 0) ts h
      rw [if_pos]
      simp only [Bool.or_eq_true, bne_iff_ne, ne_eq]
      exact .inl (Nat.ne_of_lt h1)
theorem tS_par {is : List Nat} {es : Cs} {D : Ends} {σ : St} {H : Hp} (h : tS (gx X) Wx (fun ρ => outR (evVs cl gl es ρ) ρ fun ds => outO (asgs is ds ρ)) D σ H) :
    ∃ F0 H0 F ρ, Rel (gx X) F0 H0 ρ F σ H ∧ Out (evVs cl gl es ρ) (fun ds => ∀ F' H' vs, Ext F H F' H' → Reps (gx X) F' ds vs → ∀ ρ1, asgs is ds ρ = some ρ1 → ∀ σ1, Rel (gx X) F0 H0 ρ1 F' σ1 H' → D.nx σ1 H') (fun c => Thr (gx X) Wx c F σ H) ∧ ∀ ds, evVs cl gl es ρ = .ok ds → (asgs is ds ρ).isSome = true := by
  obtain ⟨F0, H0, F, ρ, R, h⟩ := tS_iff.mp h
  refine ⟨F0, H0, F, ρ, R, (Fin.out h R).imp (fun ds _ k F' H' vs E r ρ1 e σ1 R1 => ?_) (fun _ h => h), fun ds e => ?_⟩
  · rw [e] at k
    exact k F' σ1 H' R1 E.ff
  · have k := Fin.out h R
    rw [e] at k
    cases ea : asgs is ds ρ with
    | none =>
      have k : Fin (gx X) Wx F0 H0 F D (outO (asgs is ds ρ)) := k
      rw [ea] at k
      exact k.elim
    | some _ => rfl
theorem len2 {α : Type} {l : List α} (h : l.length = 2) : ∃ a b, l = [a, b] := by
  match l, h with
  | [a, b], _ => exact ⟨a, b, rfl⟩
theorem len3 {α : Type} {l : List α} (h : l.length = 3) : ∃ a b c, l = [a, b, c] := by
  match l, h with
  | [a, b, c], _ => exact ⟨a, b, c, rfl⟩
theorem asgs_two {i j : Nat} {ds : List D} {ρ : En} (h : (asgs [i, j] ds ρ).isSome = true) : ∃ a b, ds = [a, b] := by
  match ds, h with
  | [a, b], _ => exact ⟨a, b, rfl⟩
theorem asgs_three {i j k : Nat} {ds : List D} {ρ : En} (h : (asgs [i, j, k] ds ρ).isSome = true) : ∃ a b c, ds = [a, b, c] := by
  match ds, h with
  | [a, b, c], _ => exact ⟨a, b, c, rfl⟩
theorem names_len : ∀ {is : List Nat} {es : List Expr}, ckNames x is es = true → is.length = es.length
  | [], [], _ => rfl
  | [], _ :: _, h => by simp [ckNames] at h
  | _ :: _, [], h => by simp [ckNames] at h
  | i :: is, e :: es, h => by
    cases e with
    | Name y p =>
      simp only [ckNames, Bool.and_eq_true] at h
      rw [List.length_cons, List.length_cons, names_len h.2]
    | _ => simp [ckNames] at h
theorem s_par {is : List Nat} {es : Cs} {ts vs : List Expr} {k1 k2 : Nat} {p1 p2 pos : Pos} (h : CtxOk cl gl x X Wx) (ok : X.Ok) (hn0 : calmB x (ckNames x is ts) = true) (hk : ckAs x es vs = true) (hs : (swB x.sc ts vs || swN x.sc ts vs) = true) :
    PS X (.Assign [.Tuple ts k1 p1] (.Tuple vs k2 p2) pos) (tS (gx X) Wx (evS cl gl (.par is es))) := by
  have hn := calmB_1 hn0
  have calm := h.calm (calmB_2 hn0)
  have ia := (sndA (cl := cl) (gl := gl) es x X Wx _ h hk).2
  have nd : X.N.Nodup := by rw [h.N]; exact h.nd
  rw [Bool.or_eq_true] at hs
  rcases hs with hs | hs
  · simp only [swB, Bool.and_eq_true, Bool.or_eq_true, beq_iff_eq, decide_eq_true_eq, Bool.not_eq_true'] at hs
    obtain ⟨⟨⟨⟨⟨⟨hl, hloc⟩, hnd⟩, hv⟩, hf⟩, hc⟩, hlen⟩ := hs
    have hb := kind_block ok
    have loc : ∀ t ∈ ts, ∃ p, t = .Name (nameOf t) p ∧ X.env.scope.names.lookup (nameOf t) = some .local ∧ (p.line == lineOf ts) = true := fun t ht => by
      rw [h.sc]
      exact name_of_local (List.all_eq_true.mp hloc t ht)
    have hn3 := names_len hn
    rcases hl with hl | hl
    · obtain ⟨a, b, rfl⟩ := len2 hl
      obtain ⟨v1, v2, rfl⟩ := len2 (hlen.symm.trans hl)
      obtain ⟨i, j, rfl⟩ := len2 (hn3.trans hl)
      obtain ⟨q1, ea, la, ll⟩ := loc a (by simp)
      obtain ⟨q2, eb, lb, l2⟩ := loc b (by simp)
      have hne : nameOf a ≠ nameOf b := by
        intro e
        simp [e] at hnd
      clear hloc hnd loc
      generalize nameOf a = y1 at *
      generalize nameOf b = y2 at *
      subst ea
      subst eb
      simp only [ckNames, Bool.and_eq_true, decide_eq_true_eq] at hn
      have hi : X.N[i]? = some y1 := by rw [h.N]; exact hn.1.1
      have hj : X.N[j]? = some y2 := by rw [h.N]; exact hn.2.1.1
      have hij : i ≠ j := fun e => by
        rw [e, hj] at hi
        exact hne (Option.some.inj hi).symm
      simp only [List.all_cons, List.all_nil, Bool.and_eq_true, and_true] at hv
      refine PS_imp (ps_par calm nd hi hj hij la lb ia (sw_two hb la lb (by simpa [lineOf, Expr.pos] using l2) hne hv.1 hv.2 hf hc)) fun D σ H q => ?_
      obtain ⟨F0, H0, F, ρ, R, o, all⟩ := tS_par q
      refine ⟨F0, H0, F, ρ, R, o.imp (fun ds e k F' H' us E r => ?_) fun _ z => z⟩
      obtain ⟨d1, d2, rfl⟩ := asgs_two (all ds e)
      obtain ⟨u1, us1, rfl, r1, r2⟩ := r
      obtain ⟨u2, us2, rfl, r2, r3⟩ := r2
      cases (show us2 = [] from r3)
      exact ⟨u1, u2, rfl, k F' H' _ E ⟨u1, _, rfl, r1, u2, _, rfl, r2, rfl⟩ _ rfl _ (((R.ext E).set r1).set r2)⟩
    · obtain ⟨a, b, c, rfl⟩ := len3 hl
      obtain ⟨v1, v2, v3, rfl⟩ := len3 (hlen.symm.trans hl)
      obtain ⟨i, j, l, rfl⟩ := len3 (hn3.trans hl)
      obtain ⟨q1, ea, la, ll⟩ := loc a (by simp)
      obtain ⟨q2, eb, lb, l2⟩ := loc b (by simp)
      obtain ⟨q3, ec, lc, l3⟩ := loc c (by simp)
      have hnd : [nameOf a, nameOf b, nameOf c].Nodup := hnd
      clear hloc loc
      generalize nameOf a = y1 at *
      generalize nameOf b = y2 at *
      generalize nameOf c = y3 at *
      subst ea
      subst eb
      subst ec
      simp only [ckNames, Bool.and_eq_true, decide_eq_true_eq] at hn
      have hi : X.N[i]? = some y1 := by rw [h.N]; exact hn.1.1
      have hj : X.N[j]? = some y2 := by rw [h.N]; exact hn.2.1.1
      have hl3 : X.N[l]? = some y3 := by rw [h.N]; exact hn.2.2.1.1
      have ne : (y1 ≠ y2 ∧ y1 ≠ y3) ∧ y2 ≠ y3 ∧ True := by simpa [nameOf] using hnd
      have hij : i ≠ j := fun e => by
        rw [e, hj] at hi
        exact ne.1.1 (Option.some.inj hi).symm
      have hil : i ≠ l := fun e => by
        rw [e, hl3] at hi
        exact ne.1.2 (Option.some.inj hi).symm
      have hjl : j ≠ l := fun e => by
        rw [e, hl3] at hj
        exact ne.2.1 (Option.some.inj hj).symm
      simp only [List.all_cons, List.all_nil, Bool.and_eq_true, and_true] at hv
      refine PS_imp (ps_par3 calm nd hi hj hl3 hij hil hjl la lb lc ia (sw_three hb la lb lc (by simpa [lineOf, Expr.pos] using l2) (by simpa [lineOf, Expr.pos] using l3) hnd hv.1 hv.2.1 hv.2.2 hf hc)) fun D σ H q => ?_
      obtain ⟨F0, H0, F, ρ, R, o, all⟩ := tS_par q
      refine ⟨F0, H0, F, ρ, R, o.imp (fun ds e k F' H' us E r => ?_) fun _ z => z⟩
      obtain ⟨d1, d2, d3, rfl⟩ := asgs_three (all ds e)
      obtain ⟨u1, us1, rfl, r1, r2⟩ := r
      obtain ⟨u2, us2, rfl, r2, r3⟩ := r2
      obtain ⟨u3, us3, rfl, r3, r4⟩ := r3
      cases (show us3 = [] from r4)
      exact ⟨u1, u2, u3, rfl, k F' H' _ E ⟨u1, _, rfl, r1, u2, _, rfl, r2, u3, _, rfl, r3, rfl⟩ _ rfl _ ((((R.ext E).set r1).set r2).set r3)⟩
  · simp only [swN, Bool.and_eq_true, Bool.or_eq_true, beq_iff_eq, decide_eq_true_eq] at hs
    obtain ⟨⟨⟨hl, hlen⟩, hv⟩, ho⟩ := hs
    have hw : swappedStores [.Tuple ts k1 p1] (.Tuple vs k2 p2) X.env = pure none := sw_nloc (by
      show ts.any (fun t => match t with
        | .Name y _ => !decide (X.env.scope.names.lookup y = some .local)
        | _ => false) = true
      rw [h.sc]
      exact ho)
    have hp : ckP x (.tup is) (.Tuple ts k1 p1) = true := hn0
    have hD : PE X (.Tuple vs k2 p2) (tD (gx X) Wx fun ρ => (evVs cl gl es ρ).map fun ds => .d (.tup ds)) := d_tup (fun ρ ds e => by
      rw [scal_len hk e]
      have h2 : (3 : Nat) ≤ SIZE := by decide
      rcases hl with hl | hl <;> omega) ia
    have q := s_asg (pos := pos) (g := .tup is) rfl hD (h.pt hp) (sw_other fun y p z => by cases z) hw
    have ef : (fun ρ => outR ((evVs cl gl es ρ).map fun ds => W.d (.tup ds)) ρ fun w => outO (asgn (.tup is) w.toD ρ)) = evS cl gl (.par is es) := funext fun ρ => by
      show _ = outR (evVs cl gl es ρ) ρ fun ds => outO (asgs is ds ρ)
      cases evVs cl gl es ρ <;> rfl
    rw [ef] at q
    exact q
end
end G81
end
section
set_option Elab.async false
set_option linter.all false
set_option maxHeartbeats 4000000
namespace G81
open PySem PySem.Spec L2
section
variable {cl : Str → List D → R W} {gl : Str → Option D} {x : Ctx} {X : Cx} {Wx : WX}
theorem ps_with {st : Stmt} {t : TS} (f : X.Ok → PS X st t) : PS X st t := ⟨fun pins s σ H D I h => (f I.ok).run pins s σ H D I h⟩
theorem s_raise {y m : Str} {j : Nat} {p p2 pos pos' : Pos} (h : CtxOk cl gl x X Wx) (calm : X.calm = true) (oy : okName y = true) (g : isGlob x.sc y = true) (c : y ∈ x.cls) (tk : L2N.Takes X Wx) :
    PS X (.Raise (some (.Call (.Name y p) [.Constant (.str m) j p2] [] pos)) none pos') (tS (gx X) Wx fun ρ => .exc y ρ) := by
  obtain ⟨a, e⟩ := h.cls y c
  refine PS_imp (L2N.ps_raise calm tk (L2N.pmk_own PySem.F.excBase_ValueError e.ex e.at_ e.kp (raises_own e.sub e.ty) (h.gl_ g) (okName_dbg oy).1)) fun D σ H q => ?_
  obtain ⟨F0, H0, F, ρ, R, q⟩ := tS_iff.mp q
  exact q F σ H a R (Same.refl _) e.at_
theorem sw_none {e : Expr} {l : Nat} {env : Env} : nlc e = true → swapsWith e none l env = pure false := sw_no
theorem rdB_v {ρ : En} {i : Nat} {d : D} (h : ρ.getD i .no = .v d) : rdB ρ i = .ok d := by
  unfold rdB
  rw [h]
theorem grp_lt {ρ : En} {e o : Nat} {n : Str} {b f z : Int} (h1 : ρ.getD o .no = .v (.tup [.str n, .int b, .int f])) (h2 : ρ.getD e .no = .v (.int z)) : tru (evW cl gl (.cmp .Lt (.ix (.var o) (.k (.int 1))) (.var e)) ρ) = .ok (decide (b < z)) := by
  show tru (((((rdB ρ o).bind fun x => (R.ok (D.int 1)).bind fun y => (ixEv x y).map .d).map W.toD).bind fun x => (rdB ρ e).bind fun y => (cmpEv .Lt x y).map boolW)) = _
  rw [rdB_v h1, rdB_v h2]
  rfl
theorem grp_nm {ρ : En} {o : Nat} {n : Str} {b f : Int} (h1 : ρ.getD o .no = .v (.tup [.str n, .int b, .int f])) : evW cl gl (.ix (.var o) (.k (.int 0))) ρ = .ok (.d (.str n)) := by
  show ((rdB ρ o).bind fun x => (R.ok (D.int 0)).bind fun y => (ixEv x y).map W.d) = (R.ok (W.d (.str n)))
  rw [rdB_v h1]
  rfl
theorem grp_mx {ρ : En} {e o : Nat} {n : Str} {b f z : Int} (h1 : ρ.getD o .no = .v (.tup [.str n, .int b, .int f])) (h2 : ρ.getD e .no = .v (.int z)) : evW cl gl (.bi .max (.cons (.var e) (.cons (.ix (.var o) (.k (.int 2))) .nil))) ρ = .ok (.d (.int (max z f))) := by
  show (((rdB ρ e).bind fun d => ((((rdB ρ o).bind fun x => (R.ok (D.int 2)).bind fun y => (ixEv x y).map .d).map W.toD).bind fun d2 => (R.ok (([] : List D), false)).map fun ds => (d2 :: ds.1, lent (.ix (.var o) (.k (.int 2))) ρ || ds.2)).map fun ds => (d :: ds.1, lent (.var e) ρ || ds.2)).bind fun ab => biEv .max ab.1) = _
  rw [rdB_v h1, rdB_v h2]
  show maxEv [.int z, .int f] = _
  simp only [maxEv]
  congr 3
  split <;> omega
mutual
theorem sndS : ∀ (s : S) (X : Cx) (Wx : WX) (st : Stmt), FrX X → CtxOk cl gl x X Wx → PassesOwn (model X.prog X.w) X.A X.env X.xe → ckS x s st = true → PS X st (tS (gx X) Wx (evS cl gl s))
  | .asg g e, X, Wx, st, fr, h, po, k => by
    unfold ckS at k
    split at k
    · rename_i tg v pos
      cases g with
      | one i =>
        simp only [Bool.and_eq_true, and_true] at k
        obtain ⟨t, hi, p⟩ := one_ps (pos := pos) h k.1.2 k.2.1 k.2.2
        exact s_one hi p
      | tup is =>
        simp only [Bool.and_eq_true] at k
        obtain ⟨⟨⟨n, kp⟩, ⟨ke, _⟩⟩, nt⟩ := k
        have nn : ∀ y p, tg ≠ .Name y p := fun y p z => by
          subst z
          cases kp
        exact s_asg n (snd e _ _ _ _ h ke).1 (h.pt kp) (sw_other nn) (ss_no (.inl nt))
      | tup2 i is => simp at k
    · cases k
  | .keep i e, X, Wx, st, fr, h, po, k => by
    unfold ckS at k
    split at k
    · rename_i tg v pos
      simp only [Bool.and_eq_true] at k
      obtain ⟨t, hi, p⟩ := one_ps (pos := pos) h k.1 k.2.1 k.2.2
      exact s_keep hi p
    · cases k
  | .par is es, X, Wx, st, fr, h, po, k => by
    unfold ckS at k
    split at k
    · simp only [Bool.and_eq_true] at k
      exact ps_with fun ok => s_par h ok k.1.1 k.1.2 k.2
    · cases k
  | .app i e, X, Wx, st, fr, h, po, k => by
    unfold ckS at k
    split at k
    · simp only [Bool.and_eq_true, decide_eq_true_eq] at k
      obtain ⟨⟨⟨⟨⟨⟨rfl, k1⟩, k2⟩, k3⟩, k4⟩, k5⟩, k6⟩ := k
      exact s_app (h.var k1 k2 k3) (snd e _ _ _ _ h k5).1 k4 k6
    · cases k
  | .ext i e, X, Wx, st, fr, h, po, k => by
    unfold ckS at k
    split at k
    · simp only [Bool.and_eq_true, decide_eq_true_eq] at k
      obtain ⟨⟨⟨⟨⟨⟨rfl, k1⟩, k2⟩, k3⟩, k4⟩, k5⟩, k6⟩ := k
      exact s_ext (h.var k1 k2 k3) (snd e _ _ _ _ h k5).1 k4 k6
    · cases k
  | .put i kk v, X, Wx, st, fr, h, po, k => by
    unfold ckS at k
    split at k
    · simp only [Bool.and_eq_true, decide_eq_true_eq] at k
      obtain ⟨⟨⟨⟨⟨k1, k2⟩, k3⟩, k4⟩, k5⟩, k6⟩ := k
      exact s_put (by have := h.hu; omega) (h.var k1 k2 k3) (snd kk _ _ _ _ h k5).1 (snd v _ _ _ _ h k6).1 k4 (sw_other fun y p z => by cases z)
    · cases k
  | .ex e, X, Wx, st, fr, h, po, k => by
    unfold ckS at k
    split at k
    · simp only [Bool.and_eq_true] at k
      exact s_ex (snd e _ _ _ _ h k.2).1 (sw_no k.1)
    · cases k
  | .ret e, X, Wx, st, fr, h, po, k => by
    unfold ckS at k
    split at k
    · rename_i v pos
      by_cases hv : ∃ i, e = .var i
      · obtain ⟨i, rfl⟩ := hv
        cases v with
        | Name y p =>
          simp only [ck, Bool.and_eq_true, decide_eq_true_eq] at k
          exact s_retv (ge := evW cl gl (.var i)) (h.var k.1.1 k.1.2 k.2)
        | _ => simp [ck] at k
      · exact s_ret (fun i z => hv ⟨i, z⟩) (snd e _ _ _ _ h k).1
    · cases k
  | .ret0, X, Wx, st, fr, h, po, k => by
    unfold ckS at k
    split at k
    · exact s_ret0
    · cases k
  | .ife t a b, X, Wx, st, fr, h, po, k => by
    unfold ckS at k
    split at k
    · simp only [Bool.and_eq_true] at k
      obtain ⟨⟨⟨k1, k2⟩, k3⟩, k4⟩ := k
      exact s_if ((snd t _ _ _ _ h k2).2.1 k1) (sndSs a _ _ _ fr h po k3) (sndSs b _ _ _ fr h po k4)
    · cases k
  | .for g it b, X, Wx, st, fr, h, po, k => by
    unfold ckS at k
    split at k
    · simp only [Bool.and_eq_true] at k
      obtain ⟨⟨k1, k2⟩, k3⟩ := k
      obtain ⟨i1, i2⟩ := sndI it _ _ _ _ _ h k2
      exact s_for po (h.calm (calmB_2 k1)) i1 (h.pt (calmB_1 k1)) (sndSs b _ _ _ fr h po k3) i2
    · cases k
  | .while t b, X, Wx, st, fr, h, po, k => by
    unfold ckS at k
    split at k
    · simp only [Bool.and_eq_true] at k
      obtain ⟨⟨k1, k2⟩, k3⟩ := k
      exact s_while po ((snd t _ _ _ _ h k2).2.1 k1) (sndSs b _ _ _ fr h po k3)
    · cases k
  | .raise c, X, Wx, st, fr, h, po, k => by
    unfold ckS at k
    split at k
    · simp only [Bool.and_eq_true, decide_eq_true_eq] at k
      obtain ⟨⟨⟨⟨rfl, k1⟩, k2⟩, k3⟩, k4⟩ := k
      exact s_raise h (h.calm (calmB_2 k2)) k1 (calmB_1 k2) k3 (h.df (by simpa using k4)).1
    · cases k
  | .brk, X, Wx, st, fr, h, po, k => by
    unfold ckS at k
    split at k
    · exact s_brk
    · cases k
  | .cnt, X, Wx, st, fr, h, po, k => by
    unfold ckS at k
    split at k
    · exact s_cnt
    · cases k
  | .pass, X, Wx, st, fr, h, po, k => by
    unfold ckS at k
    split at k
    · exact s_pass
    · cases k
  | .mv i j, X, Wx, st, fr, h, po, k => by
    unfold ckS at k
    split at k
    · simp only [Bool.and_eq_true, decide_eq_true_eq] at k
      exact s_mv (mv_ps h k.1 k.2.1.1 k.2.1.2 k.2.2)
    · cases k
  | .ins i kc e, X, Wx, st, fr, h, po, k => by
    unfold ckS at k
    split at k
    · simp only [Bool.and_eq_true, decide_eq_true_eq] at k
      obtain ⟨⟨⟨⟨⟨⟨⟨⟨rfl, k1⟩, k2⟩, k3⟩, k4⟩, k5⟩, k6⟩, k7⟩, k8⟩ := k
      exact s_ins (h.var k1 k2 k3) (snd kc _ _ _ _ h k6).1 (snd e _ _ _ _ h k7).1 k4 k5 k8
    · cases k
  | .dpop i kc, X, Wx, st, fr, h, po, k => by
    unfold ckS at k
    split at k
    · simp only [Bool.and_eq_true, decide_eq_true_eq] at k
      obtain ⟨⟨⟨⟨⟨⟨rfl, k1⟩, k2⟩, k3⟩, k4⟩, k6⟩, k8⟩ := k
      exact s_dpop (h.var k1 k2 k3) (snd kc _ _ _ _ h k6).1 k4 k8
    · cases k
  | .dpopd i kc, X, Wx, st, fr, h, po, k => by
    unfold ckS at k
    split at k
    · simp only [Bool.and_eq_true, decide_eq_true_eq] at k
      obtain ⟨⟨⟨⟨⟨⟨rfl, k1⟩, k2⟩, k3⟩, k4⟩, k6⟩, k8⟩ := k
      exact s_dpopd (h.var k1 k2 k3) (snd kc _ _ _ _ h k6).1 k4 k8
    · cases k
  | .grp i e o it, X, Wx, st, fr, h, po, k => by
    unfold ckS at k
    split at k
    · rename_i tg iter mn p1 p2 p3 c2 p4 mn2 p5 one kk p6 p7 p8 app apos a0 cpos q1 mn3 p9 app2 apos2 a1 p10 cpos2 q2 q3 etg mx q4 pos
      simp only [Bool.and_eq_true, decide_eq_true_eq] at k
      obtain ⟨⟨⟨⟨⟨⟨⟨⟨⟨⟨k1, k2⟩, k3⟩, rfl⟩, rfl⟩, rfl⟩, rfl⟩, rfl⟩, ⟨⟨v1, v2⟩, v3⟩⟩, ⟨⟨⟨⟨⟨⟨m1, m2⟩, m3⟩, m4⟩, m5⟩, m6⟩, m7⟩⟩, ⟨⟨⟨n1, n2⟩, n3⟩, n4⟩⟩ := k
      obtain ⟨i1, i2⟩ := sndI it _ _ _ _ _ h m3
      obtain ⟨TM, hTM, M⟩ := one_ps (pos := q4) h m2 m7 rfl
      exact s_grp k1 k2 k3 po (h.calm (calmB_2 m1)) (by have := h.hu; omega) i1 (h.pt (calmB_1 m1)) i2 (fun p => h.var v1 v2 v3) ((snd _ _ _ _ _ h m4).2.1 rfl) (snd _ _ _ _ _ h m5).1 (snd _ _ _ _ _ h m6).1 M hTM n1 n2 n3 n4
        (fun ρ n b f z h1 h2 => grp_lt h1 h2) (fun ρ n b f h1 => grp_nm h1) (fun ρ n b f h1 => grp_nm h1) (fun ρ n b f z h1 h2 => grp_mx h1 h2)
    · cases k
  | .tryk i kk b cs, X, Wx, st, fr, h, po, k => by
    unfold ckS at k
    split at k
    · rename_i body y p1 n kn p2 n2 p3 p4 p5 pos
      simp only [Bool.and_eq_true, Bool.not_eq_true', decide_eq_true_eq, List.all_eq_true] at k
      obtain ⟨⟨⟨⟨⟨⟨⟨⟨⟨⟨rfl, g⟩, rfl⟩, ki⟩, kn1⟩, kne⟩, l1⟩, l2⟩, ok⟩, ⟨kc0, kc⟩⟩, kb⟩ := k
      obtain ⟨c0, hc0⟩ : ∃ c0, c0 ∈ cs := by
        cases cs with
        | nil => cases kc0
        | cons a r => exact ⟨a, List.mem_cons_self⟩
      obtain ⟨C0, eC0⟩ := h.cls c0 (kc c0 hc0)
      obtain ⟨_, _, _, S, hS, _⟩ := h.exi c0 (kc c0 hc0) C0 eC0.at_
      refine s_try (c := .ref S) kne (ps_try_keep fr.1 fr.2 (by rw [h.N]; exact h.nd) (by rw [h.N]; exact ki) (by rw [h.N]; exact kn1) kne ?_ ?_ (okName_dbg ok).1 (okName_dbg ok).2.1 ⟨h.gl_ g, by decide +kernel, .inl hS⟩ (tb := fun W => tS (gx X) W (evSs cl gl b)) fun W pn xe tk po2 => ?_) fun c' hc C hm => ?_
      · show X.env.scope.names.lookup _ = _
        rw [h.sc]; exact l1
      · show X.env.scope.names.lookup _ = _
        rw [h.sc]; exact l2
      · exact sndSs b (X.tr pn xe) W _ fr { N := h.N, nd := h.nd, sc := h.sc, calm := h.calm, hu := h.hu, pa := fun σ => L2N.passAt (takes_n tk) σ, df := fun _ => ⟨takes_n tk, fr⟩, fn := h.fn, blt := h.blt, gls := h.gls, cls := h.cls, exi := h.exi, bnd := h.bnd, fns := h.fns } po2 kb
      · obtain ⟨_, _, _, S', hS', q⟩ := h.exi c' (kc c' hc) C hm
        rw [hS] at hS'
        cases hS'
        exact q
    · cases k
  | .tryr j b cs, X, Wx, st, fr, h, po, k => by
    unfold ckS at k
    split at k
    · rename_i body y p1 n p2 p3 p4 pos
      simp only [Bool.and_eq_true, Bool.not_eq_true', decide_eq_true_eq, List.all_eq_true] at k
      obtain ⟨⟨⟨⟨⟨⟨rfl, g⟩, kj⟩, l1⟩, ok⟩, ⟨kc0, kc⟩⟩, kb⟩ := k
      obtain ⟨c0, hc0⟩ : ∃ c0, c0 ∈ cs := by
        cases cs with
        | nil => cases kc0
        | cons a r => exact ⟨a, List.mem_cons_self⟩
      obtain ⟨C0, eC0⟩ := h.cls c0 (kc c0 hc0)
      obtain ⟨_, _, _, S, hS, _⟩ := h.exi c0 (kc c0 hc0) C0 eC0.at_
      refine s_tryr (c := .ref S) (ps_tryr fr.1 fr.2 (by rw [h.N]; exact kj) ?_ (okName_dbg ok).1 (okName_dbg ok).2.1 ⟨h.gl_ g, by decide +kernel, .inl hS⟩ (h.df (by simpa using kb.2)).1 (tb := fun W => tS (gx X) W (evSs cl gl b)) fun W pn xe tk po2 => ?_) fun c' hc C hm => ?_
      · show X.env.scope.names.lookup _ = _
        rw [h.sc]; exact l1
      · exact sndSs b (X.tr pn xe) W _ fr { N := h.N, nd := h.nd, sc := h.sc, calm := h.calm, hu := h.hu, pa := fun σ => L2N.passAt tk σ, df := fun _ => ⟨tk, fr⟩, fn := h.fn, blt := h.blt, gls := h.gls, cls := h.cls, exi := h.exi, bnd := h.bnd, fns := h.fns } po2 kb.1
      · obtain ⟨_, _, _, S', hS', q⟩ := h.exi c' (kc c' hc) C hm
        rw [hS] at hS'
        cases hS'
        exact q
    · cases k
theorem sndSs : ∀ (s : Ss) (X : Cx) (Wx : WX) (st : List Stmt), FrX X → CtxOk cl gl x X Wx → PassesOwn (model X.prog X.w) X.A X.env X.xe → ckSs x s st = true → PSs X st (tS (gx X) Wx (evSs cl gl s))
  | .nil, X, Wx, st, fr, h, po, k => by
    cases st with
    | nil => exact ss_nil
    | cons a b => simp [ckSs] at k
  | .cons s r, X, Wx, st, fr, h, po, k => by
    cases st with
    | nil => simp [ckSs] at k
    | cons a b =>
      simp only [ckSs, Bool.and_eq_true] at k
      exact ss_cons (sndS s _ _ a fr h po k.1) (sndSs r _ _ b fr h po k.2)
end
end
end G81
end
section
set_option Elab.async false
set_option linter.all false
set_option maxHeartbeats 4000000
namespace G81
open PySem PySem.Spec L2
/-- a def: its slots, its core, its text -/
structure DT where
  N : List Str
  fd : FD
  st : Stmt
abbrev Tab := List (Str × DT)
def Tab.get (T : Tab) (f : Str) : Option FD := (T.lookup f).map (·.fd)
def DT.ctx (fns gls cls : List Str) (t : DT) : Ctx := ⟨t.N, defScope t.st, none, fns, gls, cls, false, false⟩
def DT.ps (t : DT) : List Str := t.N.take t.fd.np
def scB (N P : List Str) (sc : Scope) : Bool :=
  (match sc.kind with
  | .function => true
  | _ => false) && !sc.isCoroutine && !sc.isGenerator && decide N.Nodup && decide (N.take P.length = P) && P.all (fun x => decide (sc.names.lookup x = some .local) || decide (sc.names.lookup x = some .cell)) && sc.names.all (fun y => decide (y.2 ≠ .free))
def DT.ok (fns gls cls : List Str) (t : DT) : Bool :=
  scB t.N t.ps (defScope t.st) && decide (t.fd.np ≤ t.N.length) && decide (t.fd.ns = t.N.length) && ckSs (t.ctx fns gls cls) t.fd.body (defBody t.st)
theorem scope_by {N P : List Str} {sc : Scope} (h : scB N P sc = true) : FnScope N P sc := by
  unfold scB at h
  simp only [Bool.and_eq_true, Bool.not_eq_true', decide_eq_true_eq, List.all_eq_true, Bool.or_eq_true] at h
  obtain ⟨⟨⟨⟨⟨⟨h1, h2⟩, h3⟩, h4⟩, h5⟩, h6⟩, h7⟩ := h
  refine ⟨?_, h2, h3, h4, h5, h6, h7⟩
  revert h1
  cases sc.kind <;> intro h1 <;> first | rfl | cases h1
/-- what stands behind the top -/
structure Env1 (K : PySem.W.Frag) (mg : Str → Option Value) (T : Tab) (gl : Str → Option D) (gls cls : List Str) : Prop where
  defs : ∀ p ∈ T, ∃ fa fd, mg p.1 = some (.ref fa) ∧ PySem.W.keepIn K (.ref fa) = true ∧ Fun K p.1 p.1 p.2.st fa fd ∧ Binds K fd p.2.ps []
  blt : ∀ y ∈ bnames, mg y = none
  gls : ∀ y ∈ gls, ∃ d u v, gl y = some d ∧ mg y = some u ∧ RelV v u ∧ ∀ F, Rep ⟨K, mg⟩ F d v
  exi : ∀ c ∈ cls, ErrX K mg cls c
  cls : ∀ c ∈ cls, ∃ a, ErrCls K mg c a
theorem rel_start {G : Gx} {F H : Hp} {ds : List D} {vs : List V} {N : List Str} {fd : FD} (s : Same F H) (r : Reps G F ds vs) (e : fd.ns = N.length) : Rel G ⟨F, fun _ => none⟩ H (G81.start fd ds) F (L2.start N vs) H := by
  have lr := r.length
  have noo : ∀ (i : Nat) (q : Sl), (G81.start fd ds)[i]? = some q → q = .no ∨ ∃ d, q = .v d ∧ ds[i]? = some d := fun i q h => by
    unfold G81.start at h
    by_cases hi : i < ds.length
    · rw [List.getElem?_append_left (by rw [List.length_map]; exact hi), List.getElem?_map] at h
      obtain ⟨d, e1, e2⟩ := Option.map_eq_some_iff.mp h
      exact .inr ⟨d, e2.symm, e1⟩
    · rw [List.getElem?_append_right (by rw [List.length_map]; omega)] at h
      exact .inl (List.eq_of_mem_replicate (List.mem_of_getElem? h))
  refine ⟨Same.refl _, Same.refl _, s, fun a o e => .inl e, ?_, fun i d h => ?_, fun i d h => ?_, fun i d h => ?_, fun i j p q t ne h1 h2 o1 o2 _ _ => ?_, ObCl.no fun i B h => ?_⟩
  · unfold G81.start L2.start
    rw [List.length_append, List.length_append, List.length_map, List.length_map, List.length_replicate, List.length_replicate, lr, e]
  · rcases noo i _ h with z | ⟨d', z, e1⟩
    · cases z
    · cases z
      obtain ⟨v, e2, rv⟩ := r.get e1
      refine ⟨v, ?_, rv⟩
      unfold L2.start
      have hi : i < vs.length := (List.getElem?_eq_some_iff.mp e2).1
      rw [List.getElem?_append_left (by rw [List.length_map]; exact hi), List.getElem?_map, e2]
      rfl
  · rcases noo i _ h with z | ⟨d', z, e1⟩ <;> cases z
  · rcases noo i _ h with z | ⟨d', z, e1⟩ <;> cases z
  · rcases noo i _ h1 with z | ⟨d', z, e1⟩ <;> subst z <;> cases o1
  · rcases noo i _ h with z | ⟨d', z, e1⟩ <;> cases z
section
variable {P : Program} {w : World} {K : PySem.W.Frag} {mg : Str → Option Value} {base : Heap} {T : Tab} {gl : Str → Option D} {gls cls : List Str}
theorem lookup_mem {T : Tab} {f : Str} {t : DT} (h : T.lookup f = some t) : (f, t) ∈ T := by
  induction T with
  | nil => cases h
  | cons p r ih =>
    obtain ⟨g, u⟩ := p
    rw [List.lookup_cons] at h
    split at h
    · rename_i e
      cases h
      rw [eq_of_beq e]
      exact List.mem_cons_self
    · exact List.mem_cons_of_mem _ (ih h)
theorem run_ok (E : Env1 K mg T gl gls cls) (fns : List Str) (hf : ∀ f ∈ fns, (T.lookup f).isSome = true) (ok : ∀ p ∈ T, p.2.ok fns gls cls = true) :
    ∀ (n : Nat) (f : Str) (t : DT) (fa : Addr) (fd : FuncData), T.lookup f = some t → Fun K f f t.st fa fd →
      FnOk P w K mg base (L2N.CX P w) n fa fd t.ps (spD ⟨K, mg⟩ (run T.get gl n f))
  | 0, f, t, fa, fd, hl, F => ⟨fun vs H Q E1 ⟨_, _, _, _, z⟩ => z.elim, fun A outer s H args us vs Q E1 _ _ _ _ ⟨_, _, _, _, z⟩ => z.elim⟩
  | n + 1, f, t, fa, fd, hl, F => by
    have tok := ok _ (lookup_mem hl)
    simp only [DT.ok, Bool.and_eq_true, decide_eq_true_eq] at tok
    obtain ⟨⟨⟨o1, o2⟩, o3⟩, o4⟩ := tok
    have er : ∀ ds, run T.get gl (n + 1) f ds = if ds.length = t.fd.np then outF (evSs (run T.get gl n) gl t.fd.body (G81.start t.fd ds)) else R.stuck := fun ds => by
      show (match T.get f with
        | none => R.stuck
        | some fd => if ds.length = fd.np then outF (evSs (run T.get gl n) gl fd.body (G81.start fd ds)) else R.stuck) = _
      unfold Tab.get
      rw [hl]
      rfl
    have plen : t.ps.length = t.fd.np := by
      unfold DT.ps
      rw [List.length_take]
      omega
    refine okC F (scope_by o1) (fun vs H Q E1 ⟨F0, ds, _, r, o⟩ => ?_) (fun cdv A outer s H vs Q E1 hr ⟨F0, ds, sm, r, o⟩ => ?_)
    · rw [er] at o
      split at o
      · rename_i e
        rw [r.length, e, plen]
      · exact o.elim
    · rw [er] at o
      split at o
      case isFalse => exact o.elim
      rename_i e
      have hx : CtxOk (run T.get gl n) gl (t.ctx fns gls cls) (cxOf (L2N.CX P w) P w K mg base t.N f (defScope t.st) fa cdv A outer s H E1) (fun c d _ H => E1 c d H) := {
        N := rfl
        nd := (scope_by o1).nd
        sc := rfl
        calm := fun _ => rfl
        hu := by
          have := hr.un
          show (A.deeper _).units + 70 < cLine
          omega
        pa := fun σ => L2N.passAt (L2N.takes_of rfl rfl rfl rfl) σ
        df := fun _ => ⟨L2N.takes_of rfl rfl rfl rfl, rfl, rfl⟩
        fn := fun _ => rfl
        blt := E.blt
        gls := E.gls
        cls := E.cls
        exi := E.exi
        bnd := fun z => nomatch z
        fns := fun g hg => by
          obtain ⟨t', ht⟩ := Option.isSome_iff_exists.mp (hf g hg)
          obtain ⟨fa', fd', m1, m2, m3, m4⟩ := E.defs _ (lookup_mem ht)
          exact ⟨n, fa', fd', t'.ps, m1, m2, m4, hr, run_ok E fns hf ok n g t' fa' fd' ht m3⟩ }
      refine ⟨_, sndSs t.fd.body _ _ _ ⟨rfl, rfl⟩ hx (passes_of rfl) o4, ?_⟩
      refine tS_iff.mpr ⟨_, H, F0, G81.start t.fd ds, rel_start sm r o3, ?_⟩
      cases ev : evSs (run T.get gl n) gl t.fd.body (G81.start t.fd ds) with
      | nx ρ =>
        rw [ev] at o
        exact fun F' σ' H' R s => o F' H' .non R.out rfl
      | rt w =>
        rw [ev] at o
        exact o
      | bk ρ => rw [ev] at o; exact o.elim
      | ct ρ => rw [ev] at o; exact o.elim
      | exc c ρ =>
        rw [ev] at o
        exact fun F' σ' H' a R s e => o F' H' a e R.out
      | stuck => rw [ev] at o; exact o.elim
end
end G81
end
section
set_option Elab.async false
set_option linter.all false
set_option maxHeartbeats 4000000
namespace G81
open PySem PySem.Spec L2
structure DefIn (K : PySem.W.Frag) (f : Str) (st : Stmt) : Prop where
  ex : ∃ (fa : Addr) (oc : Value) (od : Option Addr) (kV dc pm : Value) (an : Option Addr) (cd ct : Value) (sl : Array (Option Value)), PySem.W.nsIn K mainGlobals f = some (some (.ref fa)) ∧
    K.lookup fa = some ⟨oc, od, .func (PySem.W.fnOf f f (defArgs st) (defBody st) (defScope st) .none kV dc pm an cd ct), sl⟩ ∧ PySem.W.codeIn K cd f = true ∧ PySem.W.keepIn K (.ref fa) = true
theorem def_in {K : PySem.W.Frag} {f : Str} {st : Stmt} {fa : Addr} {oc : Value} {od : Option Addr} {kV dc pm : Value} {an : Option Addr} {cd ct : Value} {sl : Array (Option Value)} (a : PySem.W.nsIn K mainGlobals f = some (some (.ref fa)))
    (l : K.lookup fa = some ⟨oc, od, .func (PySem.W.fnOf f f (defArgs st) (defBody st) (defScope st) .none kV dc pm an cd ct), sl⟩) (c : PySem.W.codeIn K cd f = true) (k : PySem.W.keepIn K (.ref fa) = true) : DefIn K f st :=
  ⟨fa, oc, od, kV, dc, pm, an, cd, ct, sl, a, l, c, k⟩
/-- how arguments bind: each parameter given -/
def BindOk (f : Str) (t : DT) : Prop := ∀ (kV doc pm : Value) (an : Option Addr) (cdv ct : Value) (us : List Value), us.length = t.ps.length → bindArgs (PySem.W.fnOf f f (defArgs t.st) (defBody t.st) (defScope t.st) .none kV doc pm an cdv ct) ⟨us, []⟩ = pure (t.ps.zip us)
structure GlbIn (K : PySem.W.Frag) (gl : Str → Option D) (y : Str) : Prop where
  ex : ∃ (d : D) (u : Value) (v : V), gl y = some d ∧ PySem.W.nsIn K mainGlobals y = some (some u) ∧ RelV v u ∧ ∀ G F, Rep G F d v
theorem glb_int {K : PySem.W.Frag} {gl : Str → Option D} {y : Str} {i : Int} {t : Tok} (e : gl y = some (.int i)) (h : PySem.W.nsIn K mainGlobals y = some (some (.int i t))) : GlbIn K gl y :=
  ⟨_, _, .int i, e, h, ⟨t, rfl⟩, fun _ _ => rfl⟩
theorem glb_str {K : PySem.W.Frag} {gl : Str → Option D} {y : Str} {i : Str} {t : Tok} (e : gl y = some (.str i)) (h : PySem.W.nsIn K mainGlobals y = some (some (.str i t))) : GlbIn K gl y :=
  ⟨_, _, .str i, e, h, ⟨t, rfl⟩, fun _ _ => rfl⟩
structure ClsIn (K : PySem.W.Frag) (c : Str) : Prop where
  ex : ∃ a, PySem.W.nsIn K mainGlobals c = some (some (.ref a)) ∧ PySem.W.keepIn K (.ref a) = true ∧ PySem.W.excIn K a [.type "ValueError", .type "Exception", .type "BaseException", .type "object"] "ValueError.__new__" = true ∧
    PySem.W.subIn K (.ref a) (.type "BaseException") = some true ∧ PySem.W.typeIn K (.ref a) = some (.type "type")
theorem cls_in {K : PySem.W.Frag} {c : Str} {a : Addr} (h1 : PySem.W.nsIn K mainGlobals c = some (some (.ref a))) (h2 : PySem.W.keepIn K (.ref a) = true) (h3 : PySem.W.excIn K a [.type "ValueError", .type "Exception", .type "BaseException", .type "object"] "ValueError.__new__" = true)
    (h4 : PySem.W.subIn K (.ref a) (.type "BaseException") = some true) (h5 : PySem.W.typeIn K (.ref a) = some (.type "type")) : ClsIn K c := ⟨a, h1, h2, h3, h4, h5⟩
def isTyList (v : Value) : Bool :=
  match v with
  | .type s => decide (s = "list")
  | _ => false
def noList (K : PySem.W.Frag) : Bool := K.all fun p => !isTyList p.2.cls
theorem no_list {K : PySem.W.Frag} (h : noList K = true) {a : Addr} {o : Obj} (l : K.lookup a = some o) (c : o.cls = .type "list") : False := by
  induction K with
  | nil => cases l
  | cons p r ih =>
    obtain ⟨b, u⟩ := p
    unfold noList at h
    rw [List.all_cons, Bool.and_eq_true] at h
    rw [List.lookup_cons] at l
    split at l
    · cases l
      have h1 : isTyList o.cls = false := by simpa using h.1
      rw [c] at h1
      simp [isTyList] at h1
    · exact ih h.2 l
/-- the class of errors c, among cls, in the top's names -/
def ErrXIn (K : PySem.W.Frag) (cls : List Str) (c : Str) : Prop := ∃ C S, PySem.W.nsIn K mainGlobals c = some (some (.ref C)) ∧ PySem.W.nsIn K mainGlobals "SheetError" = some (some (.ref S)) ∧ ExcC K C ∧ PySem.W.kitOne K (.ref C) (.type "ValueError") = some true ∧ PySem.W.exmOne K (.ref C) (.ref S) = some true ∧
  ∀ c' ∈ cls, ∃ C', PySem.W.nsIn K mainGlobals c' = some (some (.ref C')) ∧ PySem.W.kitOne K (.ref C) (.ref C') = some (decide (c = c'))
structure LawIn (K : PySem.W.Frag) (T : Tab) (gl : Str → Option D) (gls cls : List Str) : Prop where
  defs : ∀ p ∈ T, DefIn K p.1 p.2.st
  blt : ∀ y ∈ bnames, PySem.W.nsIn K mainGlobals y = some none
  gls : ∀ y ∈ gls, GlbIn K gl y
  exi : ∀ c ∈ cls, ErrXIn K cls c
  cls : ∀ c ∈ cls, ClsIn K c
  nol : noList K = true
/-- what a law promises -/
def spLaw (n : Nat) : Sp := fun vs H Q _ => ∃ (a : Addr) (ns : List Int), vs = [.ref a] ∧ Rd H a (.lst (ns.map V.int)) ∧ ns.length ≤ n ∧ ∀ H', Q (.bl true) H'
theorem reps_ints {G : Gx} {F : Hp} : ∀ ns : List Int, Reps G F (ns.map D.int) (ns.map V.int)
  | [] => rfl
  | i :: r => ⟨.int i, _, rfl, rfl, reps_ints r⟩
theorem env_of {K : PySem.W.Frag} {mg : Str → Option Value} {h : Heap} {T : Tab} {gl : Str → Option D} {gls cls : List Str} (L : LawIn K T gl gls cls) (KX : K.In h) (G : h.Ns mainGlobals mg) (hb : ∀ p ∈ T, BindOk p.1 p.2) : Env1 K mg T gl gls cls where
  defs := fun p hp => by
    obtain ⟨fa, oc, od, kV, dc, pm, an, cd, ct, sl, a, l, c, k⟩ := (L.defs p hp).ex
    have F := fun_mk (st := p.2.st) l c k
    exact ⟨fa, _, PySem.W.mg_of KX G a, k, F, F.binds (hb p hp)⟩
  blt := fun y hy => PySem.W.mg_none_of KX G (L.blt y hy)
  gls := fun y hy => by
    obtain ⟨d, u, v, e, a, r, q⟩ := (L.gls y hy).ex
    exact ⟨d, u, v, e, PySem.W.mg_of KX G a, r, fun F => q _ F⟩
  cls := fun c hc => by
    obtain ⟨a, h1, h2, h3, h4, h5⟩ := (L.cls c hc).ex
    exact ⟨a, PySem.W.mg_of KX G h1, h2, h3, h4, h5⟩
  exi := fun c hc C hm => by
    obtain ⟨C1, S, a1, a2, a3, a4, a5, a6⟩ := L.exi c hc
    have e1 := (PySem.W.mg_of KX G a1).symm.trans hm
    cases e1
    refine ⟨a3, a4, fun c' hc' C' hm' => ?_, S, PySem.W.mg_of KX G a2, a5⟩
    obtain ⟨C2, b1, b2⟩ := a6 c' hc'
    have e2 := (PySem.W.mg_of KX G b1).symm.trans hm'
    cases e2
    exact b2
theorem walk_law {l : PySem.W.OpenLaw} {q : Program} {loose : List Str} {XP : (Str → Option Value) → Heap → Prop} {YP : World → Heap → Prop} {d : DefRec} {K : Params → PySem.W.Frag} {m n : Nat} {T : Tab} {gl : Str → Option D} {fns gls cls : List Str} {t : DT} {x : Str}
    (hn : l.most = some n) (hn2 : n ≤ sizeLine) (hdf : d.params.defaults = []) (hr : Room m callerA) (hY : ∀ (w : World) (h : Heap), YP w h → (K w.params).In h) (hd : T.lookup d.name = some t) (hx : t.ps = [x]) (hb : ∀ p ∈ T, BindOk p.1 p.2)
    (hf : ∀ f ∈ fns, (T.lookup f).isSome = true) (ok : ∀ p ∈ T, p.2.ok fns gls cls = true) (math : ∀ ns : List Int, ns.length ≤ n → run T.get gl m d.name [.lst (ns.map D.int)] = .ok (.d (.bl true)))
    (L : ∀ w : World, LawIn (K w.params) T gl gls cls) : PySem.W.WalkO q loose XP YP l.row.toRowW d [] (fun f vs => PySem.call f vs) := by
  refine L2.walk_of (n := n) (k := m) (x := x) (CX := fun w => L2N.CX l.prog w) (sp := fun _ => spLaw n) hn hn2 hdf hr hY (fun w mg fa h KX G hmg => ?_) (fun w H a ns hl _ hS => ?_) fun w H s e s' z => ?_
  · have E := env_of (L w) KX G hb
    obtain ⟨fa', fd, e1, k1, F, b⟩ := E.defs _ (lookup_mem hd)
    have e2 := e1.symm.trans hmg
    cases e2
    rw [hx] at b
    refine ⟨fd, fun s v => ?_, fun base KB GB => ?_⟩
    · obtain ⟨fa2, oc, od, kV, dc, pm, an, cd, ct, sl, a, lk, c, k⟩ := ((L w).defs _ (lookup_mem hd)).ex
      have e3 := (PySem.W.mg_of KX G a).symm.trans e1
      cases e3
      obtain ⟨oc', od', kV', dc', pm', an', cd', ct', sl', rfl, lk', _⟩ := F.ex
      have := hb _ (lookup_mem hd) kV' dc' pm' an' cd' ct' [v] (by rw [hx]; rfl)
      rw [hx] at this
      exact .of_eq this
    · have R := run_ok (base := base) (P := l.prog) (w := w) E fns hf ok m d.name t fa fd hd F
      rw [hx] at R
      refine R.imp fun vs H Q E1 ⟨a, ns, e, ra, ln, q⟩ => ?_
      subst e
      refine ⟨H, [.lst (ns.map D.int)], Same.refl H, ⟨_, _, rfl, ⟨a, _, rfl, ra, reps_ints ns⟩, rfl⟩, ?_⟩
      rw [math ns ln]
      intro F' H' v _ wr
      have ev : v = .bl true := wr
      subst ev
      exact q H'
  · rcases hS with hS | ⟨o, its, n, hk, hc, _⟩
    · exact ⟨a, ns, rfl, hS, hl, fun _ => rfl⟩
    · exact (no_list (L w).nol hk hc).elim
  · obtain ⟨_, _, _, _, _, _, _, _, _, _, _, _, z⟩ := z
    exact z.elim
end G81
end
section
set_option Elab.async false
set_option linter.all false
set_option maxHeartbeats 4000000
namespace G81
open PySem PySem.Spec L2
def glbChk (K : PySem.W.Frag) (gl : Str → Option D) (y : Str) : Bool :=
  match gl y, PySem.W.nsIn K mainGlobals y with
  | some (.int i), some (some (.int j _)) => decide (i = j)
  | some (.str i), some (some (.str j _)) => decide (i = j)
  | _, _ => false
theorem glb_chk {K : PySem.W.Frag} {gl : Str → Option D} {y : Str} (h : glbChk K gl y = true) : GlbIn K gl y := by
  unfold glbChk at h
  split at h
  · rename_i i j t e1 e2
    rw [← of_decide_eq_true h] at e2
    exact glb_int e1 e2
  · rename_i i j t e1 e2
    rw [← of_decide_eq_true h] at e2
    exact glb_str e1 e2
  · cases h
def defChk (K : PySem.W.Frag) (f : Str) : Bool :=
  He.eqO (PySem.W.nsIn K mainGlobals f) (some (some (.ref (He.ga K f)))) && (PySem.W.keepIn K (.ref (He.ga K f)) && (He.Fa.code (f, none) f).ok K)
def excCChk (K : PySem.W.Frag) (D : Addr) : Bool :=
  He.eqO (PySem.W.findIn K (.ref D) "__getattribute__") (some (some (.builtin "BaseException.__getattribute__"))) && (He.eqO (PySem.W.findIn K (.ref D) "__getattr__") (some none) && (decide (PySem.W.subIn K (.ref D) (.type "BaseException") = some true) && (PySem.W.hasDictIn K D &&
    (He.eqO (PySem.W.findIn K (.ref D) "__class__") (some (some (.builtin "object.__class__"))) && (He.eqO (PySem.W.specialIn K (.builtin "object.__class__") "__get__") (some (some (.builtin "getset_descriptor.__get__"))) && (decide (PySem.W.takesIn K (.builtin "object.__class__") = some true) && decide (PySem.W.mroIn K D (.type "object") = some true)))))))
theorem excC_chk {K : PySem.W.Frag} {D : Addr} (h : excCChk K D = true) : ExcC K D := by
  obtain ⟨a1, h⟩ := He.ba h
  obtain ⟨a2, h⟩ := He.ba h
  obtain ⟨a3, h⟩ := He.ba h
  obtain ⟨a4, h⟩ := He.ba h
  obtain ⟨a5, h⟩ := He.ba h
  obtain ⟨a6, h⟩ := He.ba h
  obtain ⟨a7, a8⟩ := He.ba h
  exact ⟨He.eqO_ok a1, He.eqO_ok a2, of_decide_eq_true a3, a4, He.eqO_ok a5, He.eqO_ok a6, of_decide_eq_true a7, of_decide_eq_true a8⟩
def kitChk (K : PySem.W.Frag) (c : Str) (C : Addr) (c' : Str) : Bool :=
  match PySem.W.nsIn K mainGlobals c' with
  | some (some (.ref C')) => decide (PySem.W.kitOne K (.ref C) (.ref C') = some (decide (c = c')))
  | _ => false
def errChk (K : PySem.W.Frag) (cls : List Str) (c : Str) : Bool :=
  match PySem.W.nsIn K mainGlobals c, PySem.W.nsIn K mainGlobals "SheetError" with
  | some (some (.ref C)), some (some (.ref S)) => excCChk K C && (decide (PySem.W.kitOne K (.ref C) (.type "ValueError") = some true) && (decide (PySem.W.exmOne K (.ref C) (.ref S) = some true) && cls.all (kitChk K c C)))
  | _, _ => false
theorem err_chk {K : PySem.W.Frag} {cls : List Str} {c : Str} (h : errChk K cls c = true) : ErrXIn K cls c := by
  unfold errChk at h
  split at h
  · rename_i C S e1 e2
    obtain ⟨a1, h⟩ := He.ba h
    obtain ⟨a2, h⟩ := He.ba h
    obtain ⟨a3, a4⟩ := He.ba h
    refine ⟨C, S, e1, e2, excC_chk a1, of_decide_eq_true a2, of_decide_eq_true a3, fun c' hc' => ?_⟩
    have q := List.all_eq_true.mp a4 c' hc'
    unfold kitChk at q
    split at q
    · rename_i C' e3
      exact ⟨C', e3, of_decide_eq_true q⟩
    · cases q
  · cases h
def obsL (T : Tab) (gl : Str → Option D) (gls cls : List Str) (K : PySem.W.Frag) : Bool × List He.FnV :=
  ((T.all fun p => defChk K p.1) && ((bnames.all fun y => He.eqO (PySem.W.nsIn K mainGlobals y) (some none)) && ((gls.all fun y => glbChk K gl y) && ((cls.all fun c => (He.Fa.glo c).ok K && (He.Fa.exc c).ok K) && (noList K && cls.all (errChk K cls))))),
    T.map fun p => He.fnObs K (p.1, none))
def valL (T : Tab) : Bool × List He.FnV := (true, T.map fun p => some (p.1, p.1, defArgs p.2.st, .stmts (defBody p.2.st), defScope p.2.st, mainGlobals, [], .none, builtinsNs))
theorem law_in {T : Tab} {gl : Str → Option D} {gls cls : List Str} {K : PySem.W.Frag} (h : obsL T gl gls cls K = valL T) : LawIn K T gl gls cls := by
  have h1 : ((T.all fun p => defChk K p.1) && ((bnames.all fun y => He.eqO (PySem.W.nsIn K mainGlobals y) (some none)) && ((gls.all fun y => glbChk K gl y) && ((cls.all fun c => (He.Fa.glo c).ok K && (He.Fa.exc c).ok K) && (noList K && cls.all (errChk K cls)))))) = true := congrArg Prod.fst h
  have h2 : (T.map fun p => He.fnObs K (p.1, none)) = T.map fun p => some (p.1, p.1, defArgs p.2.st, .stmts (defBody p.2.st), defScope p.2.st, mainGlobals, [], .none, builtinsNs) := congrArg Prod.snd h
  obtain ⟨a1, a2⟩ := He.ba h1
  obtain ⟨a2, a3⟩ := He.ba a2
  obtain ⟨a3, a4⟩ := He.ba a3
  obtain ⟨a4, a5⟩ := He.ba a4
  obtain ⟨a5, a6⟩ := He.ba a5
  refine ⟨fun p hp => ?_, fun y hy => He.eqO_ok (List.all_eq_true.mp a2 y hy), fun y hy => glb_chk (List.all_eq_true.mp a3 y hy), fun c hc => err_chk (List.all_eq_true.mp a6 c hc), fun c hc => ?_, a5⟩
  · have b := List.all_eq_true.mp a1 p hp
    obtain ⟨b1, b2⟩ := He.ba b
    obtain ⟨b2, b3⟩ := He.ba b2
    have e := List.map_inj_left.mp h2 p hp
    obtain ⟨oc, od, osl, kV, doc, pm, an, cdv, ct, l, c⟩ := He.fn_ok (d := ⟨(p.1, none), p.1, p.1, defArgs p.2.st, defBody p.2.st, defScope p.2.st⟩) e b3
    exact def_in (He.eqO_ok b1) l c b2
  · obtain ⟨b1, b2⟩ := He.ba (List.all_eq_true.mp a4 c hc)
    obtain ⟨c1, c2, c3, c4⟩ := He.exc_ok b2
    exact cls_in (He.eqO_ok b1) c2 c1 c3 c4
end G81
end
section
set_option Elab.async false
set_option linter.all false
set_option maxHeartbeats 4000000
namespace G81
open PySem
/-- what a told deed is: what it gives back, or the word for its error -/
def toldEv (cs : List Str) (word : List D → R W) (r : R W) : R W :=
  match r with
  | .ok w => .ok w
  | .exc c => if c ∈ cs then word [.exc c] else .stuck
  | .stuck => .stuck
/-- the number at [1] -/
def keyOf (d : D) : Option Int :=
  match d with
  | .tup (_ :: .int n :: _) => some n
  | _ => none
def leK (a b : D) : Bool := decide ((keyOf a).getD 0 ≤ (keyOf b).getD 0)
/-- sorted(x, key=lambda row: row[1]) -/
def skEv (d : D) : R W :=
  match d with
  | .tup ds => if ds.length ≤ 1000 ∧ (ds.all fun d => (keyOf d).isSome) = true then .ok (.fl (ds.mergeSort leK)) else .stuck
  | _ => .stuck
inductive S2 where
  | s (st : S)
  | asg (i : Nat) (c : C)
  | par (i j : Nat) (c e : C)
  | keep (i : Nat) (c : C)
  | app (i : Nat) (c : C)
  | forS (g : Pt) (i : Nat) (b : Ss)
section
variable (cl cl' : Str → List D → R W) (gl : Str → Option D) (cs : List Str) (word : List D → R W)
def evS2 : S2 → En → Fl
  | .s st, ρ => evS cl gl st ρ
  | .asg i c, ρ => outR (toldEv cs word (evW cl' gl c ρ)) ρ fun w => .nx (ρ.set i (.v w.toD))
  | .par i j c e, ρ => outR (toldEv cs word (evW cl' gl c ρ)) ρ fun w => outR (evW cl gl e ρ) ρ fun w2 => .nx ((ρ.set i (.v w.toD)).set j (.v w2.toD))
  | .keep i c, ρ => outR (toldEv cs word (evW cl' gl c ρ)) ρ fun w => .nx (ρ.set i (.ol [w.toD]))
  | .app i c, ρ => match ρ.getD i .no with
    | .ol ds => outR (toldEv cs word (evW cl' gl c ρ)) ρ fun w => if ds.length < SIZE then .nx (ρ.set i (.ol (ds ++ [w.toD]))) else .stuck
    | _ => .stuck
  | .forS g i b, ρ => outR ((rdB ρ i).bind skEv) ρ fun w => match w with
    | .fl ds => forL g (fun ρ1 => evSs cl gl b ρ1) ds ρ
    | _ => .stuck
def evSs2 : List S2 → En → Fl
  | [], ρ => .nx ρ
  | s :: r, ρ => match evS2 cl cl' gl cs word s ρ with
    | .nx ρ1 => evSs2 r ρ1
    | f => f
end
/-- what a law's body tells at a script -/
def run2 (Γ : Str → Option FD) (gl : Str → Option D) (cs : List Str) (k : Nat) (ns : Nat) (b : List S2) (ds : List D) : R W :=
  outF (evSs2 (run Γ gl (k + 2)) (run Γ gl k) gl cs (run Γ gl (k + 1) "_law_class") b (G81.start ⟨1, ns, .nil⟩ ds))
end G81
end
section
set_option Elab.async false
set_option linter.all false
set_option maxHeartbeats 4000000
namespace G81
open PySem PySem.Spec PyProof.Rows L2
/-- what a def promises while an error may be being handled -/
structure FnHot (P : Program) (w : World) (K : PySem.W.Frag) (mg : Str → Option Value) (base : Heap) (CX : CXT) (k : Nat) (f : Addr) (fd : FuncData) (ps : List Str) (sp : Sp) : Prop where
  len : ∀ vs H Q E, sp vs H Q E → vs.length = ps.length
  run : ∀ (A : Around) (outer : List Env) (s : Shared) (H : Hp) (args : Args) (us : List Value) (vs : List V) (Q : VK) (E : XK), L2H.RoomH k A → Env0 P w K mg base A outer s H → BindsTo s fd args (ps.zip us) → Vals vs us → sp vs H Q E →
    codeAny (model P w) A (.call (.ref f) args) (CR CX outer P w H s Q E) s
def cxHot (CX : CXT) (P : Program) (w : World) (K : PySem.W.Frag) (mg : Str → Option Value) (base : Heap) (N : List Str) (qual : Str) (scope : Scope) (f : Addr) (cd : Value) (A : Around) (outer : List Env) (s : Shared) (H : Hp) (E : XK) : Cx :=
  { cxOf CX P w K mg base N qual scope f cd A outer s H E with calm := false }
theorem inv_startHot {CX : CXT} {P : Program} {w : World} {K : PySem.W.Frag} {mg : Str → Option Value} {base : Heap} {N ps : List Str} {qual : Str} {scope : Scope} {f : Addr} {cd : Value} {A : Around} {outer : List Env} {s s1 : Shared} {H : Hp} {E : XK} {us : List Value} {vs : List V}
    (S : FnScope N ps scope) (e0 : Env0 P w K mg base A outer s H) (hl : vs.length = ps.length) (r : Vals vs us)
    (x : InCallC s s.heap.objs.size (bindL (envOfC qual scope s.heap.objs.size f cd).kindOf (ps.zip us) fun _ => none) (cellsFrom (s.heap.objs.size + 1) scope.names []) (bindC (envOfC qual scope s.heap.objs.size f cd).kindOf (ps.zip us) fun _ => none) s1) :
    Inv (cxHot CX P w K mg base N qual scope f cd A outer s H E) [] (L2.start N vs) H s1 := by
  have hpl : ps.length ≤ N.length := by have := congrArg List.length S.pre; rw [List.length_take] at this; omega
  obtain ⟨h1, tk, rfl, hk⟩ := x.done
  have noA : ∀ b : Addr, b ∉ (cxHot CX P w K mg base N qual scope f cd A outer s H E).ex := fun b z => absurd (show b ∈ ([] : List Addr) from z) (by simp)
  refine ⟨⟨e0.mod, S.kind, rfl, rfl, Nat.le_refl _, fun y z c h1 h2 => ?_, fun y hy => ?_, fun y c _ h => ?_, (fun z => Bool.noConfusion (show false = true from z)), Around.frames_deeper e0.frames, .inr ⟨rfl, rfl⟩, fun b z => absurd z (noA b), e0.bs, e0.bsz, fun b _ _ => noA b, fun b z => absurd z (noA b), e0.funs, e0.frf⟩,
    rfl, e0.bare, Un.kept hk, ⟨_, x.toInCall.ns, fun i y v h1 h2 h3 => ?_⟩, fun y c h => ⟨_, x.cell y c h⟩, e0.hok.fresh (Nat.le_refl _), fun y c h => ?_, fun q hq => absurd (show q ∈ ([] : List (Addr × Obj)) from hq) (by simp), e0.hok.kept hk, ?_⟩
  · exact name_of_addr x.apart (PySem.mem_of_lookup h1) (PySem.mem_of_lookup h2)
  · have hy : scope.names.lookup y = some .cell ∨ scope.names.lookup y = some .free := hy
    rcases hy with hy | hy
    · exact cell_has hy
    · exact absurd rfl (S.nofree _ (PySem.mem_of_lookup hy))
  · exact Nat.le_of_lt (x.above y c (PySem.mem_of_lookup h))
  · have hi : i < vs.length := by
      unfold L2.start at h2
      by_cases hi : i < vs.length
      · exact hi
      · rw [List.getElem?_append_right (by simpa using hi)] at h2
        rw [List.getElem?_replicate] at h2
        split at h2 <;> cases h2
    have ha : vs[i]? = some v := by
      unfold L2.start at h2
      rw [List.getElem?_append_left (by simpa using hi), List.getElem?_map] at h2
      cases e : vs[i]? with
      | none => rw [e] at h2; cases h2
      | some a => rw [e] at h2; cases h2; rfl
    obtain ⟨u, hu, rv⟩ := r.get ha
    have hp : ps[i]? = some y := by
      rw [← S.pre, List.getElem?_take_of_lt (by omega)]; exact h1
    have ndP : ps.Nodup := by rw [← S.pre]; exact S.nd.sublist (List.take_sublist _ _)
    refine ⟨u, rv, ?_⟩
    rcases S.par y (List.mem_of_getElem? hp) with k | k
    · exact .inl ⟨k, bindL_get ndP hp hu k⟩
    · obtain ⟨c, e⟩ := cell_has (n := s.heap.objs.size + 1) k
      refine .inr ⟨.inl k, c, e, ?_⟩
      have q := x.cell y c e
      rw [bindC_get ndP hp hu (by show scope.names.lookup y ≠ _; rw [k]; decide)] at q
      exact q
  · exact e0.hok.fresh (Nat.le_of_lt (x.above y c (PySem.mem_of_lookup h)))
  · unfold L2.start
    show _ = N.length
    rw [List.length_append, List.length_map, List.length_replicate]
    omega
theorem fn_hot {CX : CXT} {P : Program} {w : World} {K : PySem.W.Frag} {mg : Str → Option Value} {base : Heap} {k : Nat} {f : Addr} {name qual : Str} {params : Arguments} {body : List Stmt} {scope : Scope} {dV kV doc pm cdv ct oc : Value} {an od : Option Addr}
    {osl : Array (Option Value)} {N ps : List Str} {sp : Sp} (lk : K.lookup f = some ⟨oc, od, .func (PySem.W.fnOf name qual params body scope dV kV doc pm an cdv ct), osl⟩) (hcd : PySem.W.codeIn K cdv qual = true) (S : FnScope N ps scope)
    (len : ∀ vs H Q E, sp vs H Q E → vs.length = ps.length)
    (hbody : ∀ (A : Around) (outer : List Env) (s : Shared) (H : Hp) (vs : List V) (Q : VK) (E : XK), L2H.RoomH k (A.deeper (envOfC qual scope s.heap.objs.size f cdv)) → sp vs H Q E →
      ∃ t, PSs (cxHot CX P w K mg base N qual scope f cdv A outer s H E) body t ∧ t { nx := fun _ H' => Q .non H', rt := Q } (L2.start N vs) H) :
    FnHot P w K mg base CX (k + 1) f (PySem.W.fnOf name qual params body scope dV kV doc pm an cdv ct) ps sp := by
  refine ⟨len, fun A outer s H args us vs Q E hr e0 hb r hsp => ?_⟩
  have hl := len _ _ _ _ hsp
  have KX : K.In s.heap := e0.mod.kin.keeps fun b o e => (e0.bs b o e).1
  have lim : s.heap.NoLimit := e0.mod.nolimit.keeps fun b o e => (e0.bs b o e).1
  have hkind : ∀ y ∈ ps.zip us, scope.names.lookup y.1 = some .local ∨ (scope.names.lookup y.1 = some .cell ∧ ((cellsFrom (s.heap.objs.size + 1) scope.names []).lookup y.1).isSome = true) := fun ⟨n, v⟩ hy => by
    rcases S.par n (List.of_mem_zip hy).1 with q | q
    · exact .inl q
    · exact .inr ⟨q, PySem.W.cellsFrom_some _ _ _ (.inl q)⟩
  refine codeAny_call_function hr.depth (KX _ _ lk) rfl S.co S.gen rfl (PySem.W.codeRec_of KX hcd) (hb _ _ _ _ ?_)
  refine wpAny_newFunctionEnv_cells S.kind hkind fun env he s1 x => ?_
  subst he
  refine ⟨lim.keeps x.toInCall.keep, codeAny_func ?_⟩
  obtain ⟨t, ht, hq⟩ := hbody A outer s H vs Q E (hr.deeper _) hsp
  have I : Inv (cxHot CX P w K mg base N qual scope f cdv A outer s H E) [] (L2.start N vs) H s1 := inv_startHot S e0 hl r x
  refine wpAny_mono (ht.run [] s1 (L2.start N vs) H _ I hq) (fun fl s' hs => ?_) fun e s' hs => hs
  have fin : ∀ {σ' : L2.St} {H' : Hp} {v : V} {u : Value}, Inv (cxHot CX P w K mg base N qual scope f cdv A outer s H E) [] σ' H' s' → RelV v u → Q v H' → CE outer P w H s Q u s' :=
    fun {σ' H' v u} J rv q => ⟨v, H', J.os, J.bare, J.base, J.hok, rv, q⟩
  cases fl with
  | ret u =>
    obtain ⟨v, σ', H', J, rv, q⟩ := hs
    exact fin J rv q
  | next =>
    obtain ⟨σ', H', J, q⟩ := hs
    exact fin (v := V.non) (u := Value.none) J rfl q
  | brk =>
    obtain ⟨_, _, _, q⟩ := hs
    exact False.elim q
  | cont =>
    obtain ⟨_, _, _, q⟩ := hs
    exact False.elim q
section
variable {X : Cx} {CX : CXT} {k : Nat} {f : Addr} {fd : FuncData} {ps : List Str} {sp : Sp} {E : L2.St → XK} {x : Str} {q pos : Pos} {e : Expr} {es : List Expr} {t : TA}
theorem run_hot {pins : List (Addr × Obj)} {σ : L2.St} {H : Hp} {s : Shared} {Q : VK} {us : List Value} {vs : List V} (F : FnHot X.prog X.w X.K X.mg X.base CX k f fd ps sp) (hr : L2H.RoomH k X.A) (hb : Binds X.K fd ps []) (hx : PassesAt CX X σ (E σ))
    (I : Inv X pins σ H s) (r : Vals vs us) (h : sp vs H Q (E σ)) : wpAny (model X.prog X.w) X.A (call (.ref f) us) (EP X pins σ Q) X.xe s := by
  have hl : us.length = ps.length := by rw [← r.length]; exact F.len _ _ _ _ h
  have b := hb s us I.kIn (by rw [List.append_nil]; exact hl)
  rw [List.append_nil] at b
  refine wpAny_call (codeAny_mono (F.run X.A X.stack s H ⟨us, []⟩ us vs Q (E σ) hr I.env0 b r h) fun r s' hq => ?_)
  cases r with
  | error e => exact hx pins H s e s' I hq
  | ok fl =>
    cases fl with
    | ret u => exact I.after hq
    | next => exact False.elim hq
    | brk => exact False.elim hq
    | cont => exact False.elim hq
theorem pe_callHot (F : FnHot X.prog X.w X.K X.mg X.base CX k f fd ps sp) (hr : L2H.RoomH k X.A) (hg : Gl X x) (hm : X.mg x = some (.ref f)) (hk : PySem.W.keepIn X.K (.ref f) = true) (hb : Binds X.K fd ps []) (hx : ∀ σ, PassesAt CX X σ (E σ))
    (ha : PA X (e :: es) t) (hdb : (x == ("__debug__" : Str)) = false) (he : starEach (e :: es) X.env = (false, eval e X.env) :: starEach es X.env) (hpl : (backTo pos (starEach es X.env)).any (·.1) = false) :
    PE X (.Call (.Name x q) (e :: es) [] pos) (tCallS sp E t) := by
  refine ⟨fun pins s σ H Q I h => ?_⟩
  refine wpAny_Call_Name_kw (ld_glob I hg hm ?_ hdb)
  refine PySem.W.callWith_K (h₀ := X.base) I.ok.mod.kin hk (thn (ha.run pos pins s σ H _ I h) fun us s1 ⟨vs, H1, I1, r, q⟩ => ⟨I1.kIn, ?_⟩) he hpl
  exact run_hot F hr hb (hx σ) I1 r q
end
/-- a def that may be called while an error is handled: it calls none -/
def DT.okH (gls cls : List Str) (t : DT) : Bool :=
  scB t.N t.ps (defScope t.st) && decide (t.fd.np ≤ t.N.length) && decide (t.fd.ns = t.N.length) && ckSs ⟨t.N, defScope t.st, none, [], gls, cls, true, false⟩ t.fd.body (defBody t.st)
section
variable {P : Program} {w : World} {K : PySem.W.Frag} {mg : Str → Option Value} {base : Heap} {T : Tab} {gl : Str → Option D} {gls cls : List Str}
theorem run_okH (E : Env1 K mg T gl gls cls) {f : Str} {t : DT} (tok : t.okH gls cls = true) (n : Nat) {fa : Addr} {fd : FuncData} (hl : T.lookup f = some t) (F : Fun K f f t.st fa fd) :
    FnHot P w K mg base (L2N.CX P w) 1 fa fd t.ps (spD ⟨K, mg⟩ (run T.get gl (n + 1) f)) := by
  simp only [DT.okH, Bool.and_eq_true, decide_eq_true_eq] at tok
  obtain ⟨⟨⟨o1, o2⟩, o3⟩, o4⟩ := tok
  have er : ∀ ds, run T.get gl (n + 1) f ds = if ds.length = t.fd.np then outF (evSs (run T.get gl n) gl t.fd.body (G81.start t.fd ds)) else R.stuck := fun ds => by
    show (match T.get f with
      | none => R.stuck
      | some fd => if ds.length = fd.np then outF (evSs (run T.get gl n) gl fd.body (G81.start fd ds)) else R.stuck) = _
    unfold Tab.get
    rw [hl]
    rfl
  have plen : t.ps.length = t.fd.np := by
    unfold DT.ps
    rw [List.length_take]
    omega
  obtain ⟨oc', od', kV', dc', pm', an', cd', ct', sl', rfl, lk', hcd⟩ := F.ex
  refine fn_hot lk' hcd (scope_by o1) (fun vs H Q E1 ⟨F0, ds, _, r, o⟩ => ?_) (fun A outer s H vs Q E1 hr ⟨F0, ds, sm, r, o⟩ => ?_)
  · rw [er] at o
    split at o
    · rename_i e
      rw [r.length, e, plen]
    · exact o.elim
  · rw [er] at o
    split at o
    case isFalse => exact o.elim
    rename_i e
    have hx : CtxOk (run T.get gl n) gl ⟨t.N, defScope t.st, none, [], gls, cls, true, false⟩ (cxHot (L2N.CX P w) P w K mg base t.N f (defScope t.st) fa cd' A outer s H E1) (fun c d _ H => E1 c d H) := {
      N := rfl
      nd := (scope_by o1).nd
      sc := rfl
      calm := fun z => nomatch z
      hu := by
        have := hr.un
        show (A.deeper _).units + 70 < cLine
        omega
      pa := fun σ => L2N.passAt (L2N.takes_of rfl rfl rfl rfl) σ
      df := fun _ => ⟨L2N.takes_of rfl rfl rfl rfl, rfl, rfl⟩
      fn := fun _ => rfl
      blt := E.blt
      gls := E.gls
      cls := E.cls
      exi := E.exi
      bnd := fun z => nomatch z
      fns := fun g hg => nomatch hg }
    refine ⟨_, sndSs t.fd.body _ _ _ ⟨rfl, rfl⟩ hx (passes_of rfl) o4, ?_⟩
    refine tS_iff.mpr ⟨_, H, F0, G81.start t.fd ds, rel_start sm r o3, ?_⟩
    cases ev : evSs (run T.get gl n) gl t.fd.body (G81.start t.fd ds) with
    | nx ρ =>
      rw [ev] at o
      exact fun F' σ' H' R s => o F' H' .non R.out rfl
    | rt w =>
      rw [ev] at o
      exact o
    | bk ρ => rw [ev] at o; exact o.elim
    | ct ρ => rw [ev] at o; exact o.elim
    | exc c ρ =>
      rw [ev] at o
      exact fun F' σ' H' a R s e => o F' H' a e R.out
    | stuck => rw [ev] at o; exact o.elim
end
end G81
end
section
set_option Elab.async false
set_option linter.all false
set_option maxHeartbeats 4000000
namespace G81
open PySem PySem.Spec PyProof.Rows L2
abbrev TellTS := Addr → TS
/-- what the clause wishes of an exception -/
def wTell (K : PySem.W.Frag) (c : Value) (i len : Nat) (ts : TellTS) (D : Ends) : WX := fun cls d σ H =>
  d = none ∧ ∃ C, cls = .ref C ∧ PySem.W.exmOne K cls c = some true ∧ ∀ a, H a = none → σ.length = len → ts a { nx := fun σ' H' => D.nx (σ'.set i none) H', rt := D.rt, bk := fun σ' H' => D.bk (σ'.set i none) H', ct := fun σ' H' => D.ct (σ'.set i none) H' } (σ.set i (some (.ref a))) (upd H a (ExK C a))
section
variable {X : Cx} {pins : List (Addr × Obj)} {σ : L2.St} {H : Hp} {s : Shared}
theorem Inv.suite0 (I : Inv X pins σ H s) (a : Addr) : Inv (X.suite a (X.pn ++ pins)) [] σ H s :=
  ⟨I.ok.suite _ _, I.os, I.bare, I.base, I.loc, I.cell, I.free, I.freeC, fun p hp => I.pin p (by rw [List.append_nil] at hp; exact hp), I.hok, I.len⟩
theorem Inv.unsuite0 {a : Addr} (I : Inv (X.suite a (X.pn ++ pins)) [] σ H s) (ok : X.Ok) : Inv X pins σ H s :=
  ⟨ok, I.os, I.bare, I.base, I.loc, I.cell, I.free, I.freeC, fun p hp => I.pin p (by rw [List.append_nil]; exact hp), I.hok, I.len⟩
end
section
variable {X : Cx} {x n : Str} {c : Value} {i : Nat} {body suite : List Stmt} {b₀ : Stmt} {np pos pos' : Pos} {tb : WX → TS} {ts : TellTS}
theorem ps_try_tell (hs : X.stack = X.env :: X.outer) (hf : X.env.frame = some X.env.locals) (hN : X.N.Nodup) (hi : X.N[i]? = some n) (hln : X.env.kindOf n = some .local) (hc : Names X x c)
    (hb : ∀ (W : WX) (pn : List (Addr × Obj)) (xe : Value → Shared → Prop), Takes (X.tr pn xe) W → PassesOwn (model X.prog X.w) X.A X.env xe → PSs (X.tr pn xe) body (tb W))
    (hsu : ∀ (a : Addr) (pn : List (Addr × Obj)), PSs (X.suite a pn) (b₀ :: suite) (ts a)) :
    PS X (.Try body [.ExceptHandler (some (.Name x np)) (some n) (b₀ :: suite) pos'] [] [] pos) (fun D σ H => tb (wTell X.K c i X.N.length ts D) D σ H) := by
  refine ⟨fun pins s σ H D I h => ?_⟩
  have ok := I.ok
  have hfr : X.A.frames = some (X.env :: X.outer) := by rw [ok.frames, hs]
  have hloc : Loc X.env.scope n := .inl hln
  refine wpAny_Try_except ?_
  refine wpAny_mono ((hb (wTell X.K c i X.N.length ts D) (X.pn ++ pins) (fun e s₁ => wpAny (model X.prog X.w) X.A (noteFrame e X.env) (fun _ s₂ => wpAny (model X.prog X.w) X.A (setFlight e none) (fun _ s₃ =>
    wpAny (model X.prog X.w) X.A (handleBy e X.env [.ExceptHandler (some (.Name x np)) (some n) (b₀ :: suite) pos']) (SP X pins D) X.xe s₃) X.xe s₂) X.xe s₁) (fun u s' xx => ?_) PassesOwn.looking).run [] s σ H D (I.toTry _) h) (fun f s1 hsp => ?_) (fun e s1 he => he)
  · obtain ⟨a, B, sI, pins', σ', H', cls, d, rfl, J', nb, up, sky, na, os, ag, hd0, C, hcls, hb1, hyes⟩ := xx
    subst hd0 hcls
    have J : Inv X pins σ' H' sI := J'.ofTry ok
    have sky' : Sky B (X.env :: X.outer) a (Zc (.ref C) none) X.env.locals s'.heap := by rw [← hs]; exact sky
    show wpAny _ _ (noteFrame (.ref a) X.env) _ _ _
    refine Sky.land Zc.steady hfr hf sky' fun h3 fl3 up3 => ?_
    have J3 : Inv X pins σ' H' { s' with heap := h3 } := J.landed nb fl3.1 (up.trans up3) os ag
    obtain ⟨oe3, vs3, he3, hz3, hd3⟩ := fl3.there
    have notFr : ∀ {h : Heap} {o : Obj} {vs : Array Value}, h.FunFrames B (X.env :: X.outer) → h.get? a = some o → o.data = .fields vs → a ∉ frs (X.env :: X.outer) := fun {h o vs} ff e dd hm => by
      obtain ⟨_, o', e', hnf⟩ := ff.mem hm
      rw [e] at e'; cases e'
      exact hnf _ dd
    have nfr := notFr fl3.2.2.1 he3 hd3
    have nL : a ≠ X.env.locals := fun z => nfr (List.mem_filterMap.mpr ⟨X.env, List.mem_cons_self, by rw [hf, z]⟩)
    have nF : a ∉ X.fs := fun hm => by
      obtain ⟨e, he, q⟩ := List.mem_filterMap.mp hm
      exact nfr (List.mem_filterMap.mpr ⟨e, List.mem_cons_of_mem _ he, q⟩)
    have nB : B.get? a = none := fl3.2.1
    have nI : sI.heap.get? a = none := by
      cases q : sI.heap.get? a with
      | none => rfl
      | some o =>
        have z := nb a o q (by rw [hs]; exact nfr)
        rw [nB] at z; cases z
    have n0 : ∀ o, X.s_0.heap.get? a = some o → a ∈ X.ex := fun o e => by
      refine Classical.byContradiction fun hx => ?_
      obtain ⟨o', z⟩ := J.base.there a o e hx
      rw [nI] at z; cases z
    have npn : ∀ p ∈ X.pn ++ pins, p.1 ≠ a := fun p hp z => by
      have := (J.pin p hp).1
      rw [z, nI] at this; cases this
    have S3 := J3.suite he3 hd3 na nL nF
    refine wpAny_handleBy_cons (codeAny_handlers_test ?_) (by intro q; cases q)
    have LT : PySem.W.Looks (model X.prog X.w) h3 (typeOf (.ref a)) (.ref C) := fun A Q E s k q => wpAny_typeOf_ref (k _ _ he3) (by rw [hz3.1]; exact q)
    have LM := PySem.W.exm_one (M := model X.prog X.w) (J3.kIn) LT hb1
    have test : ∀ {Q : Value → Shared → Prop} {E : Value → Shared → Prop}, Q c { s' with heap := h3 } → wpAny (model X.prog X.w) (X.A.mark (some (.ref a))) (eval (.Name x np) X.env) Q E { s' with heap := h3 } := fun {Q E} q => by
      obtain ⟨hg, hdbg, hm | ⟨hm, hv, hnn⟩⟩ := hc
      · exact ld_glob (X := X.suite a ((a, oe3) :: (X.pn ++ pins))) S3 hg hm q hdbg
      · exact ld_blt (X := X.suite a ((a, oe3) :: (X.pn ++ pins))) S3 hg hm hv q hnn hdbg
    refine test (LM.here ?_)
    refine codeAny_handlers_suite_as ?_
    refine HandSPX.lands_againZ fl3 fun h4 fl4 up4 => ?_
    have J4 : Inv X pins σ' H' { s' with heap := h4 } := J.landed nb fl4.1 ((up.trans up3).trans up4) os ag
    obtain ⟨oe4, vs4, he4, hz4, hd4⟩ := fl4.there
    have J5 : Inv X pins σ' (upd H' a (ExK C a)) { s' with heap := h4 } := Inv.adopt J4 he4 hz4 hd4 na n0 nL npn
    have S4 := Inv.suite0 J5 a
    refine store_ok (X := X.suite a (X.pn ++ pins)) (v := .ref a) S4 hN hi hloc rfl (fun s5 S5 => ?_) (.inr hln)
    refine wpAny_mono ((hsu a (X.pn ++ pins)).run [] s5 _ _ _ S5 (hyes a na J.len)) (fun f s6 hsp => ?_) (fun _ _ z => False.elim z)
    cases f with
    | next =>
      obtain ⟨σ6, H6, S6, q⟩ := hsp
      exact gone_ok (Inv.unsuite0 S6 ok) hN hi hln fun s7 J7 => ⟨_, _, J7, q⟩
    | brk =>
      obtain ⟨σ6, H6, S6, q⟩ := hsp
      exact gone_ok (Inv.unsuite0 S6 ok) hN hi hln fun s7 J7 => ⟨_, _, J7, q⟩
    | cont =>
      obtain ⟨σ6, H6, S6, q⟩ := hsp
      exact gone_ok (Inv.unsuite0 S6 ok) hN hi hln fun s7 J7 => ⟨_, _, J7, q⟩
    | ret u =>
      obtain ⟨v, σ6, H6, S6, r, q⟩ := hsp
      exact gone_ok (Inv.unsuite0 S6 ok) hN hi hln fun s7 J7 => ⟨v, _, _, J7, r, q⟩
  · cases f with
    | next =>
      obtain ⟨σ', H', J', q⟩ := hsp
      exact wpAny_execs_nil ⟨σ', H', J'.ofTry ok, q⟩
    | brk =>
      obtain ⟨σ', H', J', q⟩ := hsp
      exact ⟨σ', H', J'.ofTry ok, q⟩
    | cont =>
      obtain ⟨σ', H', J', q⟩ := hsp
      exact ⟨σ', H', J'.ofTry ok, q⟩
    | ret u =>
      obtain ⟨v, σ', H', J', r, q⟩ := hsp
      exact ⟨v, σ', H', J'.ofTry ok, r, q⟩
end
end G81
end
section
set_option Elab.async false
set_option linter.all false
set_option maxHeartbeats 4000000
namespace G81
open PySem PySem.Spec PyProof.Rows L2
/-- a heap without its tables -/
def noT (F : Hp) : Hp := fun b => match F b with
  | some (.tbl _) => none
  | o => o
theorem noT_of {F : Hp} {b : Addr} {o : HO} (h : F b = some o) (n : ∀ ps, o ≠ .tbl ps) : noT F b = some o := by
  unfold noT
  rw [h]
  cases o <;> first | rfl | exact absurd rfl (n _)
theorem noT_to {F : Hp} {b : Addr} {o : HO} (h : noT F b = some o) : F b = some o ∧ ∀ ps, o ≠ .tbl ps := by
  unfold noT at h
  split at h
  · cases h
  · rename_i n
    refine ⟨h, fun ps z => n ps ?_⟩
    rw [h, z]
theorem noT_none {F : Hp} {b : Addr} (h : F b = none) : noT F b = none := by
  unfold noT
  rw [h]
theorem rd_noT {F : Hp} {a : Addr} {u : HO} (n : ∀ ps, u ≠ .tbl ps) (h : Rd F a u) : Rd (noT F) a u := by
  rcases h with h | ⟨o, h⟩
  · exact .inl (noT_of h n)
  · exact .inr ⟨o, noT_of h fun ps z => by cases z⟩
section
variable {G : Gx} {F : Hp}
mutual
theorem Rep.noT : ∀ (d : D) {v : V}, Rep G F d v → Rep G (noT F) d v
  | .non, _, h => h
  | .bl _, _, h => h
  | .int _, _, h => h
  | .str _, _, h => h
  | .tup ds, _, h => by
    obtain ⟨a, vs, e, h1, h2⟩ := h
    exact ⟨a, vs, e, rd_noT (fun _ z => by cases z) h1, Reps.noT ds h2⟩
  | .lst ds, _, h => by
    obtain ⟨a, vs, e, h1, h2⟩ := h
    exact ⟨a, vs, e, rd_noT (fun _ z => by cases z) h1, Reps.noT ds h2⟩
  | .dic kvs, _, h => by
    obtain ⟨a, us, e, h1, h2⟩ := h
    exact ⟨a, us, e, rd_noT (fun _ z => by cases z) h1, RepKs.noT kvs h2⟩
  | .exc _, _, h => by
    obtain ⟨a, C, e, m, q⟩ := h
    exact ⟨a, C, e, m, noT_of q fun ps z => by unfold ExK at z; cases z⟩
  | .fn _, _, h => h
theorem Reps.noT : ∀ (ds : List D) {vs : List V}, Reps G F ds vs → Reps G (noT F) ds vs
  | [], _, h => h
  | d :: r, _, h => by
    obtain ⟨v, w, e, h1, h2⟩ := h
    exact ⟨v, w, e, Rep.noT d h1, Reps.noT r h2⟩
theorem RepKs.noT : ∀ (kvs : List (Key × D)) {us : List (Key × V)}, RepKs G F kvs us → RepKs G (noT F) kvs us
  | [], _, h => h
  | (k, d) :: r, _, h => by
    obtain ⟨v, w, e, h1, h2⟩ := h
    exact ⟨v, w, e, Rep.noT d h1, RepKs.noT r h2⟩
end
end
/-- tables grow, all else stays: the frame is as it was -/
theorem Rel.tabs {G : Gx} {F0 : Fr} {H0 F H H1 : Hp} {ρ : En} {σ : L2.St} {T : List (Addr × Str)} (R : Rel G F0 H0 ρ F σ H) (e : LamX.ExtN H H1) (t : LamX.Tabs T H1) : ∃ H0', Rel G ⟨noT F, F0.s⟩ H0' ρ (noT F) σ H1 ∧ LamX.Tabs T H0' := by
  classical
  let own : Addr → Prop := fun b => ∃ (i : Nat) (s : Sl), ρ[i]? = some s ∧ s.own = true ∧ σ[i]? = some (some (.ref b))
  have owns : ∀ b, own b → ∃ o, H1 b = some o ∧ ((∃ vs, o = .lst vs) ∨ ∃ us, o = .dK us) := fun b ⟨i, s, h1, h2, h3⟩ => by
    cases s with
    | ol ds =>
      obtain ⟨p, vs, q1, _, _, q4, _⟩ := R.ol i ds h1
      rw [h3] at q1
      cases q1
      exact ⟨_, e _ _ q4 (fun _ z => by cases z), .inl ⟨vs, rfl⟩⟩
    | od ds =>
      obtain ⟨p, vs, q1, _, _, q4, _⟩ := R.od i ds h1
      rw [h3] at q1
      cases q1
      exact ⟨_, e _ _ q4 (fun _ z => by cases z), .inr ⟨vs, rfl⟩⟩
    | no => cases h2
    | v d => cases h2
    | ob B => cases h2
  have key : ∀ b o, H1 b = some o → (∀ vs, o ≠ .lst vs) → (∀ us, o ≠ .dK us) → ¬ own b := fun b o h n1 n2 q => by
    obtain ⟨o', h', z⟩ := owns b q
    rw [h] at h'
    cases h'
    rcases z with ⟨vs, z⟩ | ⟨us, z⟩
    · exact n1 vs z
    · exact n2 us z
  refine ⟨fun b => if own b then none else H1 b, ⟨Same.refl _, fun b o q => ?_, fun b o q => ?_, fun a o q => .inl q, R.len, fun i d q => ?_, fun i ds q => ?_, fun i ds q => ?_, R.sep, R.obj.other rfl (fun d v r => (r.mono R.f0).noT) (fun d v r => (r.mono R.f0).noT) fun b hb => ?_⟩, fun p hp => ?_⟩
  · have q : (if own b then none else H1 b) = some o := q
    split at q
    · cases q
    · exact q
  · obtain ⟨q1, q2⟩ := noT_to q
    exact e _ _ (R.fh _ _ q1) q2
  · obtain ⟨v, h1, h2⟩ := R.val i d q
    exact ⟨v, h1, h2.noT⟩
  · obtain ⟨p, vs, h1, h2, h3, h4, h5⟩ := R.ol i ds q
    exact ⟨p, vs, h1, if_pos ⟨i, _, q, rfl, h1⟩, noT_none h3, e _ _ h4 (fun _ z => by cases z), h5.noT⟩
  · obtain ⟨p, vs, h1, h2, h3, h4, h5⟩ := R.od i ds q
    exact ⟨p, vs, h1, if_pos ⟨i, _, q, rfl, h1⟩, noT_none h3, e _ _ h4 (fun _ z => by cases z), h5.noT⟩
  · obtain ⟨f1, _, o, e1, nt⟩ := R.obFree hb
    refine ⟨?_, noT_none f1⟩
    have no : ¬ own b := fun ⟨i, s, q1, q2, q3⟩ => by
      rw [(R.own_at q1 q2 q3).1] at e1
      cases e1
    show (if own b then none else H1 b) = H0 b
    rw [if_neg no, e1]
    exact e _ _ (R.h0 _ _ e1) nt
  · obtain ⟨ps, a1, a2, a3⟩ := t p hp
    refine ⟨ps, (if_neg (key _ _ a1 (fun _ z => by cases z) (fun _ z => by cases z))).trans a1, a2, fun pos cv hc => ?_⟩
    obtain ⟨c, e1, e2⟩ := a3 pos cv hc
    exact ⟨c, e1, (if_neg (key _ _ e2 (fun _ z => by unfold LamX.CodeO at z; cases z) (fun _ z => by unfold LamX.CodeO at z; cases z))).trans e2⟩
def lamC (x : Ctx) (scope : Scope) : Ctx := { x with sc := scope, own := some scope, hot := false }
theorem ctx_lam {cl cl' : Str → List D → R W} {gl : Str → Option D} {x : Ctx} {X : Cx} {Wx : WX} {scope : Scope} {A : Around} {outer : List Env} {s : Shared} {H : Hp} {E : XK} {f c' : Addr} {k : Nat} (h : CtxOk cl gl x X Wx) (L : LamX.LamS X.env.scope scope)
    (hr : Room k (A.deeper (LamX.lamEnv X scope s.heap.objs.size f c'))) (hf : ∀ f ∈ x.fns, ∃ fa fd ps, X.mg f = some (.ref fa) ∧ PySem.W.keepIn X.K (.ref fa) = true ∧ Binds X.K fd ps [] ∧ FnOk X.prog X.w X.K X.mg X.base (L2N.CX X.prog X.w) k fa fd ps (spD (gx X) (cl' f))) :
    CtxOk cl' gl (lamC x scope) (LamX.lamCx X A outer s H E scope f c') (fun c d _ H => E c d H) where
  N := h.N
  nd := h.nd
  sc := rfl
  calm := fun _ => rfl
  hu := by
    have := hr.un
    show (A.deeper _).units + 70 < cLine
    omega
  pa := fun σ => L2N.passAt (takes_n (takes_of rfl rfl rfl rfl)) σ
  df := fun z => nomatch z
  fn := fun y => by
    show false = (scope.names.lookup y == some .cell)
    cases q : scope.names.lookup y with
    | none => rfl
    | some kd =>
      cases kd <;> first | rfl | exact absurd rfl (L.own _ (PySem.mem_of_lookup q)).2
  blt := h.blt
  gls := h.gls
  cls := h.cls
  exi := h.exi
  bnd := h.bnd
  fns := fun g hg => by
    obtain ⟨fa, fd, ps, e1, e2, e3, e4⟩ := hf g hg
    exact ⟨k, fa, fd, ps, e1, e2, e3, hr, e4⟩
def TTell (G : Gx) (S : Addr) (word : List D → R W) : (XK → Hp → VK → Prop) → Hp → VK → Prop := fun tl H Q =>
  tl (fun cls d H' => d = none ∧ ∃ C, cls = .ref C ∧ PySem.W.exmOne G.K cls (.ref S) = some true ∧ ∀ a, H' a = none → spD G word [.ref a] (upd H' a (ExK C a)) Q (fun _ _ _ => False)) H Q
def toldPost (T : List (Addr × Str)) (G : Gx) (ρ : En) (σ : L2.St) (Q : VK) (r : R W) : Prop :=
  match r with
  | .ok w => ∀ F0 F1 H0' H1 F' H' v, Rel G F0 H0' ρ F1 σ H1 → LamX.Tabs T H0' → Ext F1 H1 F' H' → WRep G H1 F' H' w v → Q v H'
  | _ => False
def tTold (T : List (Addr × Str)) (G : Gx) (f : En → R W) : TE := fun σ H Q => ∃ F0 H0 F ρ, Rel G F0 H0 ρ F σ H ∧ LamX.Tabs T H0 ∧ toldPost T G ρ σ Q (f ρ)
theorem told_lam {T : List (Addr × Str)} {G : Gx} {S : Addr} {cs : List Str} {word : List D → R W} {f : En → R W} (hx : ∀ c ∈ cs, ∀ C, G.mg c = some (.ref C) → PySem.W.exmOne G.K (.ref C) (.ref S) = some true) {σ : L2.St} {H : Hp} {Q : VK}
    (h : tTold T G (fun ρ => toldEv cs word (f ρ)) σ H Q) : LamX.tLam T (TTell G S word) (fun E => tD G (fun c d _ H => E c d H) f) σ H Q := by
  obtain ⟨F0, H0, F, ρ, R, t0, h⟩ := h
  have h : toldPost T G ρ σ Q (toldEv cs word (f ρ)) := h
  refine ⟨t0.ext R.h0, fun H1 eN t1 => ?_⟩
  obtain ⟨H0', R1, t2⟩ := R.tabs eN t1
  refine ⟨_, H0', noT F, ρ, R1, ?_⟩
  cases ef : f ρ with
  | ok w =>
    rw [ef] at h
    exact fun F' H' v E wr => h _ _ H0' H1 F' H' v R1 t2 E wr
  | stuck =>
    rw [ef] at h
    exact h
  | exc c =>
    rw [ef] at h
    unfold toldEv at h
    dsimp only at h
    split at h
    case isFalse => exact h.elim
    rename_i hc
    cases ew : word [.exc c] with
    | exc c2 => rw [ew] at h; exact h.elim
    | stuck => rw [ew] at h; exact h.elim
    | ok w =>
    rw [ew] at h
    intro F' H' C hm E
    refine ⟨rfl, C, rfl, hx c hc C hm, fun b nb => ?_⟩
    have L := Ext.lay (o := ExK C b) E.fh nb
    refine ⟨upd F' b (ExK C b), [.exc c], L.fh, ⟨.ref b, [], rfl, ⟨b, C, rfl, hm, upd_same⟩, rfl⟩, ?_⟩
    rw [ew]
    intro F3 H3 v E3 wr
    exact h _ _ H0' H1 F3 H3 v R1 t2 ((E.trans L).trans E3) (wr.back (E.trans L).hh)
end G81
end
section
set_option Elab.async false
set_option linter.all false
set_option maxHeartbeats 4000000
namespace G81
open PySem PySem.Spec PyProof.Rows L2
/-- try: return a() except SheetError as n: return _law_class(n) -/
def toldShape (N : List Str) (sc : Scope) (b : List Stmt) : Bool :=
  match b with
  | [.Try [.Return (some (.Call (.Name a _) [] [] _)) _] [.ExceptHandler (some (.Name sy _)) (some n) [.Return (some (.Call (.Name wy _) [.Name n2 _] [] _)) _] _] [] [] _] =>
    (decide (sy = "SheetError") && (decide (wy = "_law_class") && (decide (n2 = n) && (decide (N[0]? = some a) && decide (N[1]? = some n))))) &&
    ((isGlob sc "SheetError" && isGlob sc "_law_class") && (decide (sc.names.lookup n = some .local) && (isVis sc a && (okName n && okName a))))
  | _ => false
theorem vis_of {sc : Scope} {y : Str} (v : isVis sc y = true) : Vis sc y := by
  unfold isVis at v
  unfold Vis
  split at v
  · rename_i e; exact .inl e
  · rename_i e; exact .inr (.inl e)
  · rename_i e; exact .inr (.inr e)
  · cases v
theorem isGlob_at {sc : Scope} {y : Str} (h : isGlob sc y = true) : sc.names.lookup y = some NameKind.globalImplicit := of_decide_eq_true h
theorem told_gives {X : Cx} {Ng : List Str} {x q : Str} {sg : Scope} {g S fc : Addr} {cdg : Value} {fdc : FuncData} {psc : List Str} {k : Nat} {word : List D → R W} {b : List Stmt} (sh : toldShape Ng sg b = true) (nd : Ng.Nodup) (hme : X.mg "SheetError" = some (.ref S))
    (hmw : X.mg "_law_class" = some (.ref fc)) (hkw : PySem.W.keepIn X.K (.ref fc) = true) (hbw : Binds X.K fdc psc []) (Fw : FnHot X.prog X.w X.K X.mg X.base (L2N.CX X.prog X.w) 1 fc fdc psc (spD (gx X) word)) (hr : Room (k + 2) X.A) :
    ∃ a, Ng[0]? = some a ∧ Vis sg a ∧ okName a = true ∧ LamX.GivesTo X Ng x sg g cdg b a q (TTell (gx X) S word) := by
  unfold toldShape at sh
  split at sh
  case h_2 => cases sh
  rename_i a p1 p2 p3 sy p4 n wy p5 n2 p6 p7 p8 p9 p10
  simp only [Bool.and_eq_true, decide_eq_true_eq] at sh
  obtain ⟨⟨rfl, rfl, rfl, n0, n1⟩, ⟨g1, g2⟩, ln, va, on, oa⟩ := sh
  refine ⟨a, n0, vis_of va, oa, ?_⟩
  intro f c' s H Q tl act hc h
  have hl1 : 1 < Ng.length := (List.getElem?_eq_some_iff.mp n1).1
  have hra : L2H.RoomH (k + 1) (X.A.deeper (envOfC x sg s.heap.objs.size g cdg)) := L2H.roomH_of (hr.deeper _)
  have hg1 : Gl (cxOf C8.CX0 X.prog X.w X.K X.mg X.base Ng x sg g cdg X.A X.stack s H C8.E0).nox "SheetError" := isGlob_at g1
  refine ⟨_, pss_one (ps_try_tell (X := (cxOf C8.CX0 X.prog X.w X.K X.mg X.base Ng x sg g cdg X.A X.stack s H C8.E0).nox) (i := 1) (c := .ref S) (ts := fun _ D σ H => tCallS (spD (gx X) word) (fun _ _ _ _ => False) (tCons (tVar 1) tNil) σ H D.rt)
    (tb := fun W D σ H => ∃ Ech : XK, (∀ cls d σ' H', Ech cls d H' → W cls d σ' H') ∧ σ[0]? = some (some (.ref f)) ∧ H c' = some (LamX.CodeO c' q) ∧ tl Ech H D.rt) rfl rfl nd n1 ln ⟨hg1, by decide +kernel, .inl hme⟩ (fun W pn xe tk _ => ?_) fun b pn => ?_), ?_⟩
  · refine ⟨fun pins s' σ H' D I h' => ?_⟩
    obtain ⟨Ech, hW, h1, h2, h3⟩ := h'
    exact (pss_one (ps_ret (pos := p3) (act W pn xe Ech p1 p2 tk hW))).run pins s' σ H' D I ⟨h1, h2, h3⟩
  · have hg2 : Gl ((cxOf C8.CX0 X.prog X.w X.K X.mg X.base Ng x sg g cdg X.A X.stack s H C8.E0).nox.suite b pn) "_law_class" := isGlob_at g2
    exact pss_one (ps_ret (pe_callHot (X := (cxOf C8.CX0 X.prog X.w X.K X.mg X.base Ng x sg g cdg X.A X.stack s H C8.E0).nox.suite b pn) (k := 1) Fw ⟨by have := hra.dp; show (X.A.deeper (envOfC x sg s.heap.objs.size g cdg)).depth + _ < _; omega, by have := hra.un; show (X.A.deeper (envOfC x sg s.heap.objs.size g cdg)).units + _ < _; omega⟩ hg2 hmw hkw hbw
      (fun σ pins H s e s' _ c => by
        obtain ⟨_, _, _, _, _, _, _, _, _, _, _, _, z⟩ := c
        exact z.elim) (pa_cons (pe_var n1 (.inl ln) (okName_dbg on).1 (okName_dbg on).2.1) pa_nil rfl) (by decide +kernel) rfl rfl))
  · refine ⟨fun cls d H' => d = none ∧ ∃ C, cls = .ref C ∧ PySem.W.exmOne X.K cls (.ref S) = some true ∧ ∀ a, H' a = none → spD (gx X) word [.ref a] (upd H' a (ExK C a)) Q (fun _ _ _ => False), fun cls d σ' H' ⟨e1, C, e2, e3, e4⟩ => ⟨e1, C, e2, e3, fun b nb len => ⟨.ref b, List.getElem?_set_self (by rw [len]; exact hl1), e4 b nb⟩⟩, ?_, hc, h⟩
    unfold L2.start
    rfl
end G81
end
section
set_option Elab.async false
set_option linter.all false
set_option maxHeartbeats 4000000
set_option maxRecDepth 100000
namespace G81
open PySem PySem.Spec L2 PyProof.Rows
section
variable {prog : Program} {w : World} {A : Around} {E : Value → Shared → Prop} {s : Shared}
open PySem.W in
theorem sorted_tup_sort {l : Addr} {vs : List Value} {kw : List (Str × Value)} {Q : Value → Shared → Prop} (hl : s.heap.IsTuple l vs.toArray) (hL : vs.length ≤ sizeLine) (ha1 : argsOk "sorted" ⟨[.ref l], kw⟩) (ha2 : ∀ x, argsOk "list.sort" ⟨[.ref x], kw⟩)
    (body : ∀ E' : Value → Shared → Prop, wpAny (model prog w) A.in1.in1 (Builtin.«list.sort» ⟨[.ref (s.heap.objs.size + 1)], kw⟩) (fun f s' => f = .done (.ret .none) ∧ Q (.ref (s.heap.objs.size + 1)) s') E' { s with heap := copyHeap s.heap vs }) :
    wpAny (model prog w) A (call (.builtin "sorted") [.ref l] kw) Q E s := by
  refine call_function_entry_kw kind_sorted plain_sorted entry_sorted ha1 ?_
  unfold Builtin.«sorted»
  refine wpAny_bind (m := checkCount "sorted" 1 1 _) (wpAny_pure ?_)
  refine wpAny_bind (gather_tup hl ?_ hL)
  refine wpAny_bind (wpAny_newList ?_ hL)
  have hsz : ((s.heap.push (seqObj "list" #[] 0)).update s.heap.objs.size (Obj.mapSeq (· ++ vs.toArray))).objs.size = s.heap.objs.size + 1 := by
    rw [Heap.size_update, size_push']
  show wpAny _ _ _ _ _ { s with heap := copyHeap s.heap vs }
  rw [hsz]
  refine wpAny_bind (wpAny_holding (wpAny_call_entry_kw slot_list_sort ⟨_, copyHeap_at s.heap vs, rfl⟩ entry_list_sort ?body (ha2 _)))
  case body =>
    show wpAny (model prog w) A.in1.in1 (Builtin.«list.sort» ⟨[.ref (s.heap.objs.size + 1)], kw⟩) _ _ _
    refine wpAny_mono (body _) (fun f s' hf => ?_) fun _ _ e => e
    obtain ⟨rfl, hq⟩ := hf
    exact ⟨_, rfl, wpAny_pure ⟨_, rfl, hq⟩⟩
open PySem.W in
theorem sorted_tup_key {β : Type} {vs : List Value} {bs : List β} {R : Value → β → Prop} {l : Addr} {f : Value} {kw : List (Str × Value)} {b : Bool} {Q : Value → Shared → Prop} (k : β → PyData) (hl : s.heap.IsTuple l vs.toArray) (e : EachIs R vs bs) (hal : AllAlike (bs.map k)) (hk : Sortable (bs.map k)) (hL : bs.length ≤ sizeLine)
    (hu : ∀ x, x ∈ bs → A.units + 2 + (k x).depth < cLine) (ha1 : argsOk "sorted" ⟨[.ref l], kw⟩) (ha2 : ∀ x, argsOk "list.sort" ⟨[.ref x], kw⟩) (ht : ∀ x, Builtin.«list.sort» ⟨[.ref x], kw⟩ = ksk_tree x f b)
    (turn : ∀ (v : Value) (x : β), R v x → x ∈ bs → ∀ (h : Heap) (tk : Nat), (∀ b o, s.heap.get? b = some o → h.get? b = some o) →
      wpAny (model prog w) A.in1.in1 (call f [v]) (KeyPure (k x) { s with heap := h, toks := tk }) (fun _ _ => False) { s with heap := h, toks := tk })
    (h : ∀ out c h' tk, (∀ b o, s.heap.get? b = some o → h'.get? b = some o) → s.heap.get? (s.heap.objs.size + 1) = none → h'.get? (s.heap.objs.size + 1) = some (seqObj "list" (List.toArray out) c) → out.length = bs.length → EachIs R out (bs.mergeSort (dataLe b k)) →
      Q (.ref (s.heap.objs.size + 1)) { s with heap := h', toks := tk }) :
    wpAny (model prog w) A (call (.builtin "sorted") [.ref l] kw) Q E s := by
  have fresh : s.heap.get? (s.heap.objs.size + 1) = none := Heap.get?_none_of_le (Nat.le_succ _)
  have up : ∀ {g : Heap}, KeepsBut (s.heap.objs.size + 1) (copyHeap s.heap vs) g → ∀ b o, s.heap.get? b = some o → g.get? b = some o := fun {g} kp b o q =>
    kp b o (Nat.ne_of_lt (Nat.lt_succ_of_lt (Heap.lt_size q))) (copyHeap_old q)
  refine sorted_tup_sort hl (by rw [e.length]; exact hL) ha1 ha2 fun E' => ?_
  rw [ht]
  refine keyH_tree (kz := bs.map k) (s := { s with heap := copyHeap s.heap vs }) (copyHeap_at s.heap vs) (by rw [List.length_map]; exact e.length.symm) (by rw [e.length]; exact hL) hal hk (bound_map (A := A.in1.in1) hu)
    (keyH_turns (s := { s with heap := copyHeap s.heap vs }) e fun v x hR hx h tk kp => turn v x hR hx h tk (up kp)) fun h' tk out c kp hD ko => ⟨rfl, ?_⟩
  exact h out c h' tk (up kp) fresh hD ((ko.length (by rw [List.length_map]; exact e.length.symm)).trans e.length) (keyedOut_each k ko e)
/-- x: x[1], called on a tuple -/
theorem key_call {f t : Addr} {q y : Str} {params : Arguments} {scope : Scope} {cl : List (Str × Addr)} {pm ctv : Value} {c' : Addr} {k : Nat} {p1 p2 p3 : Pos} {us : List Value} {n : Int} {tok : Tok}
    (hd : A.depth < recursionLimit) (lim : s.heap.NoLimit) (ho : s.heap.get? f = some (PySem.W.kla_obj "<lambda>" q params (.Subscript (.Name y p1) (.Constant (.int 1) k p2) p3) scope cl pm c' ctv)) (hcode : s.heap.CodeRec (.ref c') q)
    (hco : scope.isCoroutine = false) (hgen : scope.isGenerator = false) (hk : scope.kind = .function) (hcell : ∀ x ∈ scope.names, x.2 ≠ .cell) (hy : scope.names.lookup y = some .local) (hdb : (y == ("__debug__" : Str)) = false)
    (hbind : bindArgs (PySem.W.kla_fn "<lambda>" q params (.Subscript (.Name y p1) (.Constant (.int 1) k p2) p3) scope cl pm (.ref c') ctv) ⟨[.ref t], []⟩ = pure [(y, .ref t)])
    (ht : s.heap.IsTuple t us.toArray) (h1 : us[1]? = some (.int n tok)) (hL : us.length ≤ sizeLine) :
    wpAny (model prog w) A (call (.ref f) [.ref t]) (PySem.W.KeyPure (.int n) s) (fun _ _ => False) s := by
  refine wpAny_call (PySem.W.kla_callFunE hd ho rfl hco hgen rfl hcode ?_)
  rw [hbind]
  refine wpAny_pure (wpAny_newFunctionEnv hcell (fun x hx => by rw [List.mem_singleton.mp hx]; exact hy) (fun h₁ hns hsb => ⟨lim.fresh _ hsb, ?_⟩) hk)
  show codeAny _ _ (.expr _ (PySem.W.envX q scope s.heap.objs.size f (.ref c') cl)) _ _
  have kp : ∀ b o, s.heap.get? b = some o → h₁.get? b = some o := fun b o e => hsb.extBut b o (Nat.ne_of_lt (Heap.lt_size e)) (Heap.get?_push_of_some _ e)
  refine PySem.W.kla_codeExpr ?_
  refine Subscript_Constant (wpAny_Name (wpAny_loadName_local (v := .ref t) hk hy hns (by show (List.reverse [(y, Value.ref t)]).lookup y = _; simp [List.lookup_cons]) ?_) hdb)
  refine wpAny_Constant_int ?_
  have ht1 : h₁.IsTuple t us.toArray := by
    obtain ⟨o, e1, e2⟩ := ht
    exact ⟨o, kp _ _ e1, e2⟩
  have l2 : 1 < us.length := (List.getElem?_eq_some_iff.mp h1).1
  have hsi : seqIndex? 1 us.toArray.size = some 1 := by
    unfold seqIndex?
    rw [List.size_toArray]
    simp only []
    first
      | (rw [if_pos (by omega)]; rfl)
      | (simp; omega)
  exact ⟨"tuple", _, slot_tuple_getitem.lookup, (ht1 : IsTup h₁ t us.toArray).typeIs, getItem_tuple (j := 1) (s := { s with heap := h₁, toks := _ }) (ht1 : IsTup h₁ t us.toArray) (by decide) (by decide) hsi (by simpa using h1) ⟨h₁, _, rfl, kp, .int n tok⟩⟩
end
theorem each_rel {G : Gx} {F : Hp} : ∀ {ds : List D} {vs : List V} {us : List Value}, Reps G F ds vs → Vals vs us → PySem.W.EachIs (fun u d => ∃ v, RelV v u ∧ Rep G F d v) us ds
  | [], vs, us, h, r => by
    rw [show vs = [] from h] at r
    cases r
    exact .nil
  | d :: ds, vs, us, h, r => by
    obtain ⟨v, w, rfl, h1, h2⟩ := h
    cases r with
    | cons r1 r2 => exact .cons ⟨v, r1, h1⟩ (each_rel h2 r2)
theorem leK_eq : PySem.W.dataLe false (fun d : D => PyData.int ((keyOf d).getD 0)) = leK := by
  rw [PySem.W.dataLe_eq]
  funext a b
  have e : PySem.W.dataLt (PyData.int ((keyOf b).getD 0)) (PyData.int ((keyOf a).getD 0)) = decide ((keyOf b).getD 0 < (keyOf a).getD 0) := PySem.W.dataLt_int _ _
  show (!PySem.W.dataLt (PyData.int ((keyOf b).getD 0)) (PyData.int ((keyOf a).getD 0))) = decide ((keyOf a).getD 0 ≤ (keyOf b).getD 0)
  rw [e]
  by_cases z : (keyOf a).getD 0 ≤ (keyOf b).getD 0
  · rw [decide_eq_true z, decide_eq_false (by omega)]; rfl
  · rw [decide_eq_false z, decide_eq_true (by omega)]; rfl
theorem keyOf_some {d : D} {n : Int} (h : keyOf d = some n) : ∃ d0 r, d = .tup (d0 :: .int n :: r) := by
  unfold keyOf at h
  split at h
  · cases h
    exact ⟨_, _, rfl⟩
  · cases h
section
variable {X : Cx} {T : List (Addr × Str)} {c P : Addr}
theorem pe_sortk {i k : Nat} {y0 y : Str} {params : Arguments} {scope : Scope} {p yp p1 p2 p3 lpos kpos pos : Pos} (hg : Gl X "sorted") (hm : X.mg "sorted" = none) (hv : PE X (.Name y0 yp) (tVar i)) (TB : LamX.TabB X.base X.mg c P) (hcode : X.env.code = .ref c)
    (hmT : (P, X.env.qual ++ "<lambda>") ∈ T) (hu : ∀ p ∈ T, p.1 = P → p.2 = X.env.qual ++ "<lambda>") (hr : Room 2 X.A) (hdef : defaultsOf params X.env = ([], [])) (hfree : ∀ y ∈ scope.names, y.2 = .free → ∃ c, X.env.cells.lookup y.1 = some c)
    (hco : scope.isCoroutine = false) (hgen : scope.isGenerator = false) (hk : scope.kind = .function) (hcell : ∀ x ∈ scope.names, x.2 ≠ .cell) (hy : scope.names.lookup y = some .local) (hdb : (y == ("__debug__" : Str)) = false)
    (hbind : ∀ (q : Str) (cl : List (Str × Addr)) (pm cv ctv : Value) (u : Value), bindArgs (PySem.W.kla_fn "<lambda>" q params (.Subscript (.Name y p1) (.Constant (.int 1) k p2) p3) scope cl pm cv ctv) ⟨[u], []⟩ = pure [(y, u)]) :
    PE X (.Call (.Name "sorted" p) [.Name y0 yp] [⟨some "key", .Lambda params (.Subscript (.Name y p1) (.Constant (.int 1) k p2) p3) scope lpos, kpos⟩] pos) (tTold T (gx X) fun ρ => (rdB ρ i).bind skEv) := by
  refine ⟨fun pins s σ H Q I h => ?_⟩
  obtain ⟨F0, H0, F, ρ, R, t0, h⟩ := h
  obtain ⟨ds, eρ, hds, h⟩ : ∃ ds, ρ.getD i .no = .v (.tup ds) ∧ (ds.length ≤ 1000 ∧ (ds.all fun d => (keyOf d).isSome) = true) ∧ toldPost T (gx X) ρ σ Q (.ok (.fl (ds.mergeSort leK))) := by
    dsimp only at h
    unfold rdB at h
    split at h
    · exact h.elim
    · rename_i d e2
      have h : toldPost T (gx X) ρ σ Q (skEv d) := h
      unfold skEv at h
      split at h
      · rename_i d1 _
        split at h
        · rename_i c
          exact ⟨d1, e2, c, h⟩
        · exact h.elim
      · exact h.elim
    · exact h.elim
    · exact h.elim
    · exact h.elim
  have e1 : ρ[i]? = some (.v (.tup ds)) := by
    rw [List.getD_eq_getElem?_getD] at eρ
    cases z : ρ[i]? with
    | none => rw [z] at eρ; cases eρ
    | some t => rw [z] at eρ; exact congrArg some eρ
  obtain ⟨v, ev, a, vs, rfl, hrd, rr⟩ := R.val i _ e1
  refine wpAny_Call_Name_kw (ld_blt I hg hm (u := .builtin "sorted") (by decide +kernel) ?_)
  have pa : PA X [.Name y0 yp] (tCons (tVar i) tNil) := pa_cons hv pa_nil
  refine PyProof.Rows.callWith_kw (thn (pa.run pos pins s σ H (fun xs H1 => xs = [.ref a] ∧ H1 = H) I ⟨.ref a, ev, rfl, rfl⟩) fun us s1 ⟨xs, H1, I1, r1, q1⟩ => ?_)
  obtain ⟨rfl, rfl⟩ := q1
  obtain rfl := Vals.ref1 r1
  show wpAny _ _ (evalAll ((do let v ← eval (.Lambda params (.Subscript (.Name y p1) (.Constant (.int 1) k p2) p3) scope lpos) X.env; standAt pos; pure v) :: [])) _ _ s1
  refine wpAny_evalAll_cons (wpAny_bind (LamX.lam_make2 I1 TB hcode hmT hu (t0.ext R.h0) hdef hfree fun f c' pm ctv H2 s2 I2 eN T2 hf hfn hfr hcc => wpAny_bind (wpAny_standAt (wpAny_pure (wpAny_evalAll_nil ?_)))))
  show wpAny _ _ (call (.builtin "sorted") [.ref a] [(Str.ofString "key", .ref f)]) _ _ s2
  obtain ⟨H0', R2, t2⟩ := R.tabs eN T2
  have rd2 : Rd H2 a (.tup vs) := rd_mono R2.fh (rd_noT (fun _ z => by cases z) hrd)
  obtain ⟨its, rv, hl, hz⟩ := I2.tuple (xs := vs) (.inl rd2)
  have ei := each_rel (rr.noT) rv
  have lim := I2.nolimit
  refine sorted_tup_key (s := s2) (fun d : D => PyData.int ((keyOf d).getD 0)) hl ei (fun p1 h1 p2 h2 => ?_) (.inr fun q hq => ?_) (Nat.le_trans hds.1 (by decide)) (fun d hd => ?_) (ksk_s1 _ _) (fun x => ksk_l1 _ _) (b := false) (fun x => rfl) (fun u d ⟨w', rw', rp⟩ hd h3 tk kp => ?_) fun out cc h3 tk kp fresh hD lo eo => ?_
  · obtain ⟨x1, _, rfl⟩ := List.mem_map.mp h1
    obtain ⟨x2, _, rfl⟩ := List.mem_map.mp h2
    rfl
  · obtain ⟨x1, _, rfl⟩ := List.mem_map.mp hq
    exact ⟨(fun z => by cases z), fun _ z => by cases z⟩
  · have := hr.un
    show X.A.units + 2 + (PyData.int _).depth < cLine
    have e0 : (PyData.int ((keyOf d).getD 0)).depth ≤ 1 := by simp [PyData.depth]
    omega
  · obtain ⟨n, en⟩ := Option.isSome_iff_exists.mp (List.all_eq_true.mp hds.2 d hd)
    obtain ⟨d0, r0, rfl⟩ := keyOf_some en
    obtain ⟨t, ws, rfl, hrt, w0, ww, rfl, _, w1, ww2, rfl, hw1, _⟩ := rp
    have hw1 : w1 = .int n := hw1
    subst hw1
    cases rw'
    obtain ⟨its2, rv2, hl2, hz2⟩ := I2.tuple (a := t) (.inl (rd_mono R2.fh hrt))
    have hlv := rv2.length
    cases rv2 with
    | cons x1 x2 =>
      cases x2 with
      | cons x3 x4 =>
        obtain ⟨tok, rfl⟩ := x3
        rw [en]
        obtain ⟨⟨oc, vs2, t9, hoc, hdc, hvc⟩, _, _⟩ := I2.hok c' _ hcc
        exact key_call (s := { s2 with heap := h3, toks := tk }) (by have := hr.dp; show X.A.in1.in1.depth < _; exact (hr.in1.in1).depth) (lim.keeps kp) (kp _ _ hf) ⟨c', oc, vs2, t9, rfl, kp _ _ hoc, hdc, hvc⟩ hco hgen hk hcell hy hdb (hbind _ _ _ _ _ _) (IsTup.keeps hl2 kp) rfl (by first | (rw [hlv]; exact hz2) | (rw [← hlv]; exact hz2))
  · obtain ⟨vs', rv', rr'⟩ := each_back eo
    rw [leK_eq] at rr'
    have nl : H2 (s2.heap.objs.size + 1) = none := I2.hok.fresh (Nat.le_succ _)
    refine ⟨.ref _, upd H2 (s2.heap.objs.size + 1) (.lst vs'), I2.laid (t' := tk) kp (Nat.le_succ _) ⟨?_, out, cc, rv', hD⟩, rfl, ?_⟩
    · rw [rv'.length, lo]
      exact Nat.le_trans hds.1 (by decide)
    · exact h _ _ H0' H2 _ _ _ R2 t2 (Ext.own R2.fh nl) ⟨_, vs', rfl, nl, R2.fh.free nl, upd_same, rr'⟩
end
end G81
end
section
set_option Elab.async false
set_option linter.all false
set_option maxHeartbeats 4000000
namespace G81
open PySem PySem.Spec PyProof.Rows L2
def noPar (p : Arguments) : Bool :=
  match p with
  | ⟨[], [], none, [], [], none, []⟩ => true
  | _ => false
/-- _law_told(lambda: c) -/
def toldC (x : Ctx) (c : C) (e : Expr) : Bool :=
  match e with
  | .Call (.Name f _) [.Lambda params body scope _] [] _ => decide (f = "_law_told") && (isGlob x.sc "_law_told" && (noPar params && (LamX.lamSB x.sc scope && ck (lamC x scope) c body)))
  | _ => false
/-- the scope of: lambda y: y[1] -/
def keyLamB (y : Str) (scope : Scope) : Bool := (decide (scope.kind = .function) && (!scope.isCoroutine && !scope.isGenerator)) && ((scope.names.all fun y => !decide (y.2 = .free) && !decide (y.2 = .cell)) && (decide (scope.names.lookup y = some .local) && !(y == ("__debug__" : Str))))
/-- does told stand in it? -/
def hasTold : S2 → Bool
  | .s _ => false
  | .forS _ _ _ => false
  | _ => true
def hasSort : S2 → Bool
  | .forS _ _ _ => true
  | _ => false
def ckS2 (x : Ctx) : S2 → Stmt → Bool
  | .s s, st => ckS x s st
  | .asg i c, st => (match st with
    | .Assign [.Name y p] e _ => ckP x (.one i) (.Name y p) && toldC x c e
    | _ => false)
  | .par i j c e, st => (match st with
    | .Assign [.Tuple [.Name y p, .Name z q] _ _] (.Tuple [a, b] _ _) pos => (decide (x.N[i]? = some y) && (decide (x.N[j]? = some z) && (decide (i ≠ j) && (decide (x.sc.names.lookup y = some .local) && decide (x.sc.names.lookup z = some .local))))) &&
      ((swB x.sc [.Name y p, .Name z q] [a, b] && !x.hot) && (toldC x c a && (nst b && ck x e b)))
    | _ => false)
  | .keep i c, st => (match st with
    | .Assign [.Name y p] (.List [e] _) _ => ckP x (.one i) (.Name y p) && toldC x c e
    | _ => false)
  | .app i c, st => (match st with
    | .Expr (.Call (.Attribute (.Name y _) m apos) [a] [] cpos) _ => (decide (m = "append") && (decide (x.N[i]? = some y) && (okName y && (isVis x.sc y && (apos.endLine == cpos.line))))) && toldC x c a
    | _ => false)
  | .forS g i b, st => (match st with
    | .For tg (.Call (.Name f _) [.Name y0 _] [⟨some kw, .Lambda ⟨[], [⟨y, _, _⟩], none, [], [], none, []⟩ (.Subscript (.Name z _) (.Constant (.int m) _ _) _) scope _, _⟩] _) body [] _ => (decide (f = "sorted") && (decide (kw = "key") && (decide (y = "_law_row") && (decide (z = "_law_row") && (decide (m = 1) && (!x.hot && isGlob x.sc "sorted")))))) &&
      ((decide (x.N[i]? = some y0) && (okName y0 && isVis x.sc y0)) && ((keyLamB y scope) && (ckP x g tg && ckSs x b body)))
    | _ => false)
def ckSs2 (x : Ctx) : List S2 → List Stmt → Bool
  | [], l => l.isEmpty
  | s :: r, l => (match l with
    | st :: sts => ckS2 x s st && ckSs2 x r sts
    | [] => false)
/-- what a body with told promises -/
def Fin2 (T : List (Addr × Str)) (G : Gx) (D : Ends) (f : Fl) : Prop :=
  match f with
  | .nx ρ1 => ∀ F0' H0' F' σ' H', Rel G F0' H0' ρ1 F' σ' H' → LamX.Tabs T H0' → D.nx σ' H'
  | .rt w => ∀ H0' F' H' v, WRep G H0' F' H' w v → D.rt v H'
  | _ => False
def tS2 (T : List (Addr × Str)) (G : Gx) (f : En → Fl) : TS := fun D σ H => ∃ F0 H0 F ρ, Rel G F0 H0 ρ F σ H ∧ LamX.Tabs T H0 ∧ Fin2 T G D (f ρ)
section
variable {T : List (Addr × Str)} {X : Cx} {Wx : WX}
theorem s2_plain {st : Stmt} {f : En → Fl} (h : PS X st (tS (gx X) Wx f)) : PS X st (tS2 T (gx X) f) :=
  PS_imp h fun D σ H q => by
    obtain ⟨F0, H0, F, ρ, R, t, q⟩ := q
    refine tS_iff.mpr ⟨F0, H0, F, ρ, R, ?_⟩
    cases ef : f ρ with
    | nx ρ1 =>
      rw [ef] at q
      exact fun F' σ' H' R' _ => q F0 H0 F' σ' H' R' t
    | rt w =>
      rw [ef] at q
      exact fun F' H' v _ wr => q H0 F' H' v wr
    | bk ρ => rw [ef] at q; exact q.elim
    | ct ρ => rw [ef] at q; exact q.elim
    | exc c ρ => rw [ef] at q; exact q.elim
    | stuck => rw [ef] at q; exact q.elim
theorem s2_cons {st : Stmt} {sts : List Stmt} {f g : En → Fl} (h1 : PS X st (tS2 T (gx X) f)) (h2 : PSs X sts (tS2 T (gx X) g)) : PSs X (st :: sts) (tS2 T (gx X) fun ρ => match f ρ with
    | .nx ρ1 => g ρ1
    | z => z) :=
  PSs_imp (pss_cons h1 h2) fun D σ H q => by
    obtain ⟨F0, H0, F, ρ, R, t, q⟩ := q
    refine ⟨F0, H0, F, ρ, R, t, ?_⟩
    dsimp only at q
    cases ef : f ρ with
    | nx ρ1 =>
      rw [ef] at q
      exact fun F0' H0' F' σ' H' R' t' => ⟨F0', H0', F', ρ1, R', t', q⟩
    | rt w => rw [ef] at q; exact q
    | bk ρ => rw [ef] at q; exact q.elim
    | ct ρ => rw [ef] at q; exact q.elim
    | exc c ρ => rw [ef] at q; exact q.elim
    | stuck => rw [ef] at q; exact q.elim
theorem s2_nil : PSs X [] (tS2 T (gx X) fun ρ => .nx ρ) := ⟨fun pins s σ H D I h => by
  obtain ⟨F0, H0, F, ρ, R, t, q⟩ := h
  exact pss_nil.run pins s σ H D I (q F0 H0 F σ H R t)⟩
theorem post_out {G : Gx} {ρ : En} {σ : L2.St} {Q : VK} {D : Ends} {r : R W} {k : W → Fl} (h : Fin2 T G D (outR r ρ k)) (i : ∀ w, r = .ok w → Fin2 T G D (k w) → toldPost T G ρ σ Q (.ok w)) : toldPost T G ρ σ Q r := by
  cases r with
  | ok w => exact i w rfl h
  | exc c => exact (show False from h).elim
  | stuck => exact (show False from h).elim
/-- x = told -/
theorem s2_asg {i : Nat} {y : Str} {e : Expr} {p pos : Pos} {f : En → R W} (hy : PG X (.Name y p) (gName i)) (he : PE X e (tTold T (gx X) f)) (hs : swapsWith e (some (.Name y p)) pos.line X.env = pure false) :
    PS X (.Assign [.Name y p] e pos) (tS2 T (gx X) fun ρ => outR (f ρ) ρ fun w => .nx (ρ.set i (.v w.toD))) :=
  PS_imp (ps_asg he hy hs (ss_no (.inr ⟨(fun _ _ _ z => by cases z), (fun _ _ z => by cases z)⟩))) fun D σ H q => by
    obtain ⟨F0, H0, F, ρ, R, t, q⟩ := q
    refine ⟨F0, H0, F, ρ, R, t, post_out (k := fun w => .nx (ρ.set i (.v w.toD))) q fun w _ q Z1 F1 H0' H1 F' H' v R1 t1 E wr => ?_⟩
    obtain ⟨F2, E2, _, rv⟩ := E.freeze wr
    exact q _ _ _ _ _ ((R1.ext E2).set rv) t1
/-- x = [told] -/
theorem s2_keep {i : Nat} {y : Str} {e : Expr} {p p2 pos : Pos} {f : En → R W} (hy : PG X (.Name y p) (gName i)) (he : PE X e (tTold T (gx X) f)) (ne : starEach [e] X.env = (false, eval e X.env) :: starEach [] X.env) :
    PS X (.Assign [.Name y p] (.List [e] p2) pos) (tS2 T (gx X) fun ρ => outR (f ρ) ρ fun w => .nx (ρ.set i (.ol [w.toD]))) :=
  PS_imp (ps_asg (pe_lst (pa_cons he pa_nil ne)) hy (show swapsWith (.List [e] p2) (some (.Name y p)) pos.line X.env = pure false from sw_no rfl) (ss_no (.inr ⟨(fun _ _ _ z => by cases z), (fun _ _ z => by cases z)⟩))) fun D σ H q => by
    obtain ⟨F0, H0, F, ρ, R, t, q⟩ := q
    refine ⟨F0, H0, F, ρ, R, t, post_out (k := fun w => .nx (ρ.set i (.ol [w.toD]))) q fun w _ q Z1 F1 H0' H1 F' H' v R1 t1 E wr => ?_⟩
    obtain ⟨F2, E2, _, rv⟩ := E.freeze wr
    refine ⟨(show 1 ≤ sizeLine by decide), fun l nl => ?_⟩
    have R2 := R1.ext E2
    have nF : F2 l = none := E2.fh.free nl
    exact q _ _ _ _ _ (R2.setOwn (w := .fl [w.toD]) (s := .ol [w.toD]) (Ext.own (o := .lst [v]) E2.fh nl) rfl ⟨l, [v], rfl, nl, nF, upd_same, .one rv⟩) t1
/-- x.append(told) -/
theorem s2_app {i : Nat} {y : Str} {a : Expr} {p apos cpos pos : Pos} {f : En → R W} (hv : PE X (.Name y p) (tVar i)) (ha : PE X a (tTold T (gx X) f)) (na : nst a = true) (hl : (apos.endLine == cpos.line) = true) :
    PS X (.Expr (.Call (.Attribute (.Name y p) "append" apos) [a] [] cpos) pos) (tS2 T (gx X) fun ρ => match ρ.getD i .no with
    | .ol ds => outR (f ρ) ρ fun w => if ds.length < SIZE then .nx (ρ.set i (.ol (ds ++ [w.toD]))) else .stuck
    | _ => .stuck) :=
  PS_imp (ps_expr (pe_bm PySem.F.plainAttrs_list PySem.F.slot_list_append PySem.F.type_list_append mt_append hv (pa_cons ha pa_nil (starEach_cons na)) rfl (by rw [starEach_cons na]; rfl) hl (starEach_cons na) rfl) rfl) fun D σ H q => by
    obtain ⟨F0, H0, F, ρ, R, t, q⟩ := q
    dsimp only at q
    split at q
    · rename_i ds eds
      obtain ⟨l, vs, q1, qs, _, fl, hp, r⟩ := own_list R eds
      refine ⟨.ref l, qs, .inl ⟨rfl, vs, .inl (.inl hp)⟩, F0, H0, F, ρ, R, t, post_out q fun w _ q Z1 F1 H0' H1 F' H' v R1 t1 E wr => ?_⟩
      split at q
      · rename_i hs
        obtain ⟨F2, E2, _, rv⟩ := E.freeze wr
        obtain ⟨l2, vs2, b1, b2, b3, b4, b5⟩ := R1.ol i ds q1
        rw [qs] at b1
        cases b1
        refine ⟨l, vs2, v, rfl, rfl, E.hh _ _ b4, ?_, q _ _ _ _ _ (grown R1 E2 q1 qs b5 (.one rv)) t1⟩
        rw [b5.length]
        have h2 : (SIZE : Nat) < sizeLine := by decide
        omega
      · exact q.elim
    · exact q.elim
/-- x, y = told, e -/
theorem s2_par {i j : Nat} {y z : Str} {a b : Expr} {p1 p2 pt pt2 pos : Pos} {kt k2 : Nat} {f g : En → R W} (calm : X.calm = true) (nd : X.N.Nodup) (hi : X.N[i]? = some y) (hj : X.N[j]? = some z) (hij : i ≠ j) (hy : X.env.scope.names.lookup y = some .local) (hz : X.env.scope.names.lookup z = some .local)
    (ha : PE X a (tTold T (gx X) f)) (hb : PE X b (tD (gx X) Wx g)) (na : nst a = true) (nb : nst b = true) (hw : swappedStores [.Tuple [.Name y p1, .Name z p2] kt pt] (.Tuple [a, b] k2 pt2) X.env = pure (some [y, z])) :
    PS X (.Assign [.Tuple [.Name y p1, .Name z p2] kt pt] (.Tuple [a, b] k2 pt2) pos) (tS2 T (gx X) fun ρ => outR (f ρ) ρ fun w => outR (g ρ) ρ fun w2 => .nx ((ρ.set i (.v w.toD)).set j (.v w2.toD))) :=
  PS_imp (ps_par calm nd hi hj hij hy hz (pa_cons ha (pa_cons hb pa_nil (starEach_cons nb)) (starEach_cons na)) hw) fun D σ H q => by
    obtain ⟨F0, H0, F, ρ, R, t, q⟩ := q
    refine ⟨F0, H0, F, ρ, R, t, post_out (k := fun w => outR (g ρ) ρ fun w2 => .nx ((ρ.set i (.v w.toD)).set j (.v w2.toD))) q fun w _ q Z1 F1 H0' H1 F' H' v R1 t1 E wr => ?_⟩
    obtain ⟨F2, E2, _, rv⟩ := E.freeze wr
    refine ⟨_, H0', F2, ρ, R1.ext E2, ?_⟩
    cases eg : g ρ with
    | ok w2 =>
      rw [eg] at q
      intro F3 H3 v2 E3 wr2
      obtain ⟨F4, E4, _, rv2⟩ := E3.freeze wr2
      exact ⟨v, v2, rfl, q _ _ _ _ _ ((((R1.ext E2).ext E4).set (rv.mono E4.ff)).set rv2) t1⟩
    | exc c => rw [eg] at q; exact (show False from q).elim
    | stuck => rw [eg] at q; exact (show False from q).elim
end
section
variable {T : List (Addr × Str)} {X : Cx} {Wx : WX}
/-- for x in sorted(y, key=..) -/
theorem s2_for {tg iter : Expr} {body : List Stmt} {pos : Pos} {g : Pt} {f : En → R W} {fb : En → Fl} (po : PassesOwn (model X.prog X.w) X.A X.env X.xe) (hc : X.calm = true) (hi : PE X iter (tTold T (gx X) f)) (hg : PG X tg (gPt X.K g)) (hb : PSs X body (tS (gx X) Wx fb)) (hs : ∀ v, foldedSetIterable iter X.env v = pure v) :
    PS X (.For tg iter body [] pos) (tS2 T (gx X) fun ρ => outR (f ρ) ρ fun w => match w with
      | .fl ds => forL g fb ds ρ
      | _ => .stuck) :=
  PS_imp (ps_for po hc (pi_seq hi) hg hb hs) fun D σ H q => by
    obtain ⟨F0, H0, F, ρ, R, t, q⟩ := q
    refine ⟨F0, H0, F, ρ, R, t, post_out q fun w _ q Z1 F1 H0' H1 F' H' v R1 t1 E wr => ?_⟩
    cases w with
    | d x => exact (show False from q).elim
    | fd x => exact (show False from q).elim
    | fl ds =>
      obtain ⟨F2, E2, _, rv⟩ := E.freeze wr
      obtain ⟨p, vs, rfl, hp, r⟩ := rv
      have RR := R1.ext E2
      have jok := j_list (G := gx X) hp r
      refine .inl ⟨p, rfl, ⟨vs, .inl (rd_mono RR.fh hp)⟩, ?_⟩
      refine ⟨fun i m σ H => ∃ F' ρ', Rel (gx X) Z1 H0' ρ' F' σ H ∧ Same F2 F' ∧ i + m = ds.length ∧ Fin2 T (gx X) D (forL g fb (ds.drop i) ρ'), ⟨ds.length, F2, ρ, RR, Same.refl _, by omega, q⟩, fun i m σ2 H2 hw => ?_⟩
      obtain ⟨F', ρ', R', s1, em, k'⟩ := hw
      have jk := jok F' H2 s1 R'.fh (s1.trans R'.fh)
      by_cases hlt : i < ds.length
      · have edrop : ds.drop i = ds[i] :: ds.drop (i + 1) := List.drop_eq_getElem_cons hlt
        obtain ⟨jg, jy⟩ := jk.1 i ds[i] (List.getElem?_eq_getElem hlt)
        refine .inr ⟨jg, fun σ' H' => ∃ m', m' < m ∧ ∃ F' ρ', Rel (gx X) Z1 H0' ρ' F' σ' H' ∧ Same F2 F' ∧ (i + 1) + m' = ds.length ∧ Fin2 T (gx X) D (forL g fb (ds.drop (i + 1)) ρ'), fun σ' H' z => z, fun v Hy y => ?_⟩
        obtain ⟨F3, E3, rv⟩ := jy v Hy y
        rw [edrop] at k'
        unfold forL at k'
        cases ea : asgn g ds[i] ρ' with
        | none => rw [ea] at k'; exact k'.elim
        | some ρ1 =>
          rw [ea] at k'
          dsimp only at k'
          refine pt_ok (G := gx X) ea rv (R'.ext E3) fun σ1 R2 _ => tS_iff.mpr ⟨Z1, H0', F3, ρ1, R2, ?_⟩
          have s2 := s1.trans E3.ff
          cases eb : fb ρ1 with
          | nx ρ2 =>
            rw [eb] at k'
            exact fun F4 σ3 H3 R3 s3 => ⟨m - 1, by omega, F4, ρ2, R3, s2.trans s3, by omega, k'⟩
          | ct ρ2 =>
            rw [eb] at k'
            exact fun F4 σ3 H3 R3 s3 => ⟨m - 1, by omega, F4, ρ2, R3, s2.trans s3, by omega, k'⟩
          | bk ρ2 =>
            rw [eb] at k'
            exact fun F4 σ3 H3 R3 s3 => k' _ _ _ _ _ R3 t1
          | rt w =>
            rw [eb] at k'
            exact fun F4 H4 v _ wr => k' _ _ _ _ wr
          | exc c ρ2 => rw [eb] at k'; exact k'.elim
          | stuck => rw [eb] at k'; exact k'.elim
      · have ei : i = ds.length := by omega
        subst ei
        have e0 : ds.drop ds.length = [] := List.drop_length
        rw [e0] at k'
        exact .inl ⟨jk.2, k' _ _ _ _ _ R' t1⟩
end
def lamN (q : Str) : Str := q ++ "<lambda>"
/-- what told asks of the frame in which it stands -/
structure Told (X : Cx) (T : List (Addr × Str)) (k : Nat) (cs : List Str) (word : List D → R W) : Prop where
  room : Room (k + 2) X.A
  tab : ∃ c P, LamX.TabB X.base X.mg c P ∧ X.env.code = .ref c ∧ (P, lamN X.env.qual) ∈ T ∧ ∀ p ∈ T, p.1 = P → p.2 = lamN X.env.qual
  err : ∃ S, X.mg "SheetError" = some (.ref S) ∧ ∀ c ∈ cs, ∀ C, X.mg c = some (.ref C) → PySem.W.exmOne X.K (.ref C) (.ref S) = some true
  cls : ∃ fc fdc psc, X.mg "_law_class" = some (.ref fc) ∧ PySem.W.keepIn X.K (.ref fc) = true ∧ Binds X.K fdc psc [] ∧ FnHot X.prog X.w X.K X.mg X.base (L2N.CX X.prog X.w) 1 fc fdc psc (spD (gx X) word)
  told : ∃ (g : Addr) (pg : Arguments) (bg : List Stmt) (sg : Scope) (dV kV doc pm cdv ct oc : Value) (an od : Option Addr) (osl : Array (Option Value)) (Ng : List Str) (a : Str), X.mg "_law_told" = some (.ref g) ∧ PySem.W.keepIn X.K (.ref g) = true ∧
    X.K.lookup g = some ⟨oc, od, .func (PySem.W.fnOf "_law_told" "_law_told" pg bg sg dV kV doc pm an cdv ct), osl⟩ ∧ PySem.W.codeIn X.K cdv "_law_told" = true ∧ Binds X.K (PySem.W.fnOf "_law_told" "_law_told" pg bg sg dV kV doc pm an cdv ct) [a] [] ∧ FnScope Ng [a] sg ∧ toldShape Ng sg bg = true
/-- what sorted(.., key=) asks of the frame in which it stands -/
structure TabR (X : Cx) (T : List (Addr × Str)) : Prop where
  room : Room 2 X.A
  tab : ∃ c P, LamX.TabB X.base X.mg c P ∧ X.env.code = .ref c ∧ (P, lamN X.env.qual) ∈ T ∧ ∀ p ∈ T, p.1 = P → p.2 = lamN X.env.qual
theorem Told.tabR {X : Cx} {T : List (Addr × Str)} {k : Nat} {cs : List Str} {word : List D → R W} (M : Told X T k cs word) : TabR X T := ⟨M.room.mono (by omega), M.tab⟩
theorem pe_told {cl cl' : Str → List D → R W} {gl : Str → Option D} {x : Ctx} {X : Cx} {Wx : WX} {T : List (Addr × Str)} {k : Nat} {cs : List Str} {word : List D → R W} {c : C} {e : Expr} (h : CtxOk cl gl x X Wx) (M : Told X T k cs word)
    (hf : ∀ f ∈ x.fns, ∃ fa fd ps, X.mg f = some (.ref fa) ∧ PySem.W.keepIn X.K (.ref fa) = true ∧ Binds X.K fd ps [] ∧ FnOk X.prog X.w X.K X.mg X.base (L2N.CX X.prog X.w) k fa fd ps (spD (gx X) (cl' f))) (kc : toldC x c e = true) :
    nst e = true ∧ (∀ y p l env, swapsWith e (some (.Name y p)) l env = pure false) ∧ PE X e (tTold T (gx X) fun ρ => toldEv cs word (evW cl' gl c ρ)) := by
  unfold toldC at kc
  split at kc
  case h_2 => cases kc
  rename_i f p1 params body scope lpos pos
  simp only [Bool.and_eq_true, decide_eq_true_eq] at kc
  obtain ⟨rfl, hg, hp, hL, hc⟩ := kc
  refine ⟨rfl, fun y p l env => sw_no rfl, ?_⟩
  obtain ⟨cc, P, TB, hcode, hm, hu⟩ := M.tab
  unfold lamN at hm hu
  obtain ⟨S, hS, hx⟩ := M.err
  obtain ⟨fc, fdc, psc, c1, c2, c3, c4⟩ := M.cls
  obtain ⟨g, pg, bg, sg, dV, kV, doc, pm, cdv, ct, oc, an, od, osl, Ng, a, t1, t2, t3, t4, t5, t6, t7⟩ := M.told
  have L : LamX.LamS X.env.scope scope := LamX.lamS_by (by rw [h.sc]; exact hL)
  obtain ⟨a', n0, va, oa, GT⟩ := told_gives (X := X) (x := "_law_told") (q := X.env.qual ++ "<lambda>") (g := g) (cdg := cdv) t7 t6.nd hS c1 c2 c3 c4 M.room
  have ea : a' = a := by
    have := t6.pre
    cases Ng with
    | nil => cases n0
    | cons z r =>
      cases n0
      injection this
  subst ea
  have params_ : params = ⟨[], [], none, [], [], none, []⟩ := by
    unfold noPar at hp
    split at hp
    · rfl
    · cases hp
  subst params_
  exact PE_imp (LamX.pe_lamcall (T := T) (TT := TTell (gx X) S word) (t := fun E => tD (gx X) (fun c d _ H => E c d H) (evW cl' gl c)) (h.gl_ hg) t1 t2 t3 t4 t5 t6 n0 va GT TB hcode hm hu M.room L rfl (fun _ _ _ _ _ => rfl)
    (fun A outer s H E f c' hr => (snd c (lamC x scope) _ _ body (ctx_lam h L hr hf) hc).1) (by decide +kernel) (okName_dbg oa).1 (okName_dbg oa).2.1) fun σ H Q q => told_lam hx q
end G81
end
section
set_option Elab.async false
set_option linter.all false
set_option maxHeartbeats 4000000
namespace G81
open PySem PySem.Spec PyProof.Rows L2
section
variable {T : List (Addr × Str)} {cl cl' : Str → List D → R W} {gl : Str → Option D} {x : Ctx} {X : Cx} {Wx : WX} {k : Nat} {cs : List Str} {word : List D → R W}
theorem sndS2 (fr : FrX X) (h : CtxOk cl gl x X Wx) (po : PassesOwn (model X.prog X.w) X.A X.env X.xe) 
    (hf : ∀ f ∈ x.fns, ∃ fa fd ps, X.mg f = some (.ref fa) ∧ PySem.W.keepIn X.K (.ref fa) = true ∧ Binds X.K fd ps [] ∧ FnOk X.prog X.w X.K X.mg X.base (L2N.CX X.prog X.w) k fa fd ps (spD (gx X) (cl' f))) :
    ∀ (s : S2) (st : Stmt), (hasSort s = true → TabR X T) → (hasTold s = true → Told X T k cs word) → ckS2 x s st = true → PS X st (tS2 T (gx X) (evS2 cl cl' gl cs word s))
  | .s s, st, M0, M, kc => s2_plain (sndS s X Wx st fr h po kc)
  | .asg i c, st, M0, M, kc => by
    simp only [ckS2] at kc
    split at kc
    case h_2 => cases kc
    simp only [Bool.and_eq_true] at kc
    obtain ⟨_, sw, p⟩ := pe_told h (M rfl) hf kc.2
    exact s2_asg (h.pt kc.1) p (sw _ _ _ _)
  | .keep i c, st, M0, M, kc => by
    simp only [ckS2] at kc
    split at kc
    case h_2 => cases kc
    simp only [Bool.and_eq_true] at kc
    obtain ⟨n, _, p⟩ := pe_told h (M rfl) hf kc.2
    exact s2_keep (h.pt kc.1) p (starEach_cons n)
  | .app i c, st, M0, M, kc => by
    simp only [ckS2] at kc
    split at kc
    case h_2 => cases kc
    simp only [Bool.and_eq_true, decide_eq_true_eq] at kc
    obtain ⟨⟨rfl, k1, k2, k3, k4⟩, k5⟩ := kc
    obtain ⟨n, _, p⟩ := pe_told h (M rfl) hf k5
    exact s2_app (h.var k1 k2 k3) p n k4
  | .par i j c e, st, M0, M, kc => by
    simp only [ckS2] at kc
    split at kc
    case h_2 => cases kc
    simp only [Bool.and_eq_true, decide_eq_true_eq, Bool.not_eq_true'] at kc
    obtain ⟨⟨k1, k2, k3, k4, k5⟩, ⟨k6, k7⟩, k8, k9, k10⟩ := kc
    obtain ⟨n, _, p⟩ := pe_told h (M rfl) hf k8
    simp only [swB, Bool.and_eq_true, Bool.or_eq_true, beq_iff_eq, decide_eq_true_eq, Bool.not_eq_true'] at k6
    obtain ⟨⟨⟨⟨⟨⟨hl, hloc⟩, hnd⟩, hv⟩, hf1⟩, hc1⟩, hlen⟩ := k6
    rw [← h.sc] at k4 k5
    refine ps_with fun ok => s2_par (h.calm k7) (by rw [h.N]; exact h.nd) (by rw [h.N]; exact k1) (by rw [h.N]; exact k2) k3 k4 k5 p (snd e _ _ _ _ h k10).1 n k9 (sw_two (kind_block ok) k4 k5 ?_ ?_ n k9 hf1 hc1)
    · simp only [List.all_cons, List.all_nil, isLocal, Bool.and_eq_true, lineOf, List.head?_cons, Option.map_some, Option.getD_some, Expr.pos] at hloc
      exact hloc.2.1.2
    · intro e
      subst e
      simp [nameOf] at hnd
  | .forS g i b, st, M0, M, kc => by
    simp only [ckS2] at kc
    split at kc
    case h_2 => cases kc
    simp only [Bool.and_eq_true, decide_eq_true_eq, Bool.not_eq_true', keyLamB, List.all_eq_true, decide_eq_false_iff_not] at kc
    obtain ⟨⟨rfl, rfl, rfl, rfl, rfl, k5, k6⟩, ⟨k7, k8, k9⟩, ⟨⟨l1, l2, l3⟩, l4, l5, l6⟩, k10, k11⟩ := kc
    have M0 := M0 rfl
    obtain ⟨cc, P, TB, hcode, hm, hu⟩ := M0.tab
    exact s2_for po (h.calm k5) (pe_sortk (h.gl_ k6) (h.blt _ (by decide +kernel)) (h.var k7 k8 k9) TB hcode hm hu M0.room rfl (fun y hy e => absurd e (l4 y hy).1) l2 l3 l1 (fun y hy => (l4 y hy).2) l5 l6 (fun _ _ _ _ _ _ => rfl)) (h.pt k10) (sndSs b _ _ _ fr h po k11) fun v => no_fold rfl v
theorem sndSs2 (fr : FrX X) (h : CtxOk cl gl x X Wx) (po : PassesOwn (model X.prog X.w) X.A X.env X.xe) 
    (hf : ∀ f ∈ x.fns, ∃ fa fd ps, X.mg f = some (.ref fa) ∧ PySem.W.keepIn X.K (.ref fa) = true ∧ Binds X.K fd ps [] ∧ FnOk X.prog X.w X.K X.mg X.base (L2N.CX X.prog X.w) k fa fd ps (spD (gx X) (cl' f))) :
    ∀ (b : List S2) (l : List Stmt), (b.any hasSort = true → TabR X T) → (b.any hasTold = true → Told X T k cs word) → ckSs2 x b l = true → PSs X l (tS2 T (gx X) (evSs2 cl cl' gl cs word b))
  | [], l, M0, M, kc => by
    cases l with
    | nil => exact s2_nil
    | cons a r => simp [ckSs2] at kc
  | s :: r, l, M0, M, kc => by
    cases l with
    | nil => simp [ckSs2] at kc
    | cons a r' =>
      simp only [ckSs2, Bool.and_eq_true] at kc
      exact s2_cons (sndS2 fr h po hf s a (fun z => M0 (by rw [List.any_cons, z]; rfl)) (fun z => M (by rw [List.any_cons, z]; rfl)) kc.1) (sndSs2 fr h po hf r r' (fun z => M0 (by rw [List.any_cons, z, Bool.or_true])) (fun z => M (by rw [List.any_cons, z, Bool.or_true])) kc.2)
end
end G81
end
section
set_option Elab.async false
set_option linter.all false
set_option maxHeartbeats 400000
namespace G81
open PySem PySem.Spec PyProof.Rows L2
def lamT (Pt : Addr) (q : Str) : List (Addr × Str) := [(Pt, lamN (q ++ ".<locals>."))]
theorem lamT_mem {X : Cx} {q : Str} (e : X.env.qual = q ++ ".<locals>.") (Pt : Addr) : (Pt, lamN X.env.qual) ∈ lamT Pt q := by
  rw [e]
  exact List.mem_singleton_self _
theorem lamT_one {X : Cx} {q : Str} (e : X.env.qual = q ++ ".<locals>.") (Pt : Addr) : ∀ p ∈ lamT Pt q, p.1 = Pt → p.2 = lamN X.env.qual := fun p hp _ => by
  rw [e, List.mem_singleton.mp hp]
section
variable {P : Program} {w : World} {K : PySem.W.Frag} {mg : Str → Option Value} {base : Heap} {T : Tab} {gl : Str → Option D} {gls cls : List Str}
theorem law2_ok (E : Env1 K mg T gl gls cls) (fns : List Str) (hf : ∀ f ∈ fns, (T.lookup f).isSome = true) (ok : ∀ p ∈ T, p.2.ok fns gls cls = true) {tc tt tl : DT} (hc : T.lookup ("_law_class" : Str) = some tc) (okc : tc.okH gls cls = true)
    {b : List S2} {cs : List Str} (hcs : ∀ c ∈ cs, c ∈ cls) (ne : cs ≠ []) {k : Nat} {fa ft c Pt : Addr} {fd fdt : FuncData} (TB : LamX.TabB base mg c Pt)
    (tme : mg "_law_told" = some (.ref ft)) (tkp : PySem.W.keepIn K (.ref ft) = true) (tF : Fun K "_law_told" "_law_told" tt.st ft fdt) (tb : Binds K fdt tt.ps []) (tps : ∃ a, tt.ps = [a]) (tsc : scB tt.N tt.ps (defScope tt.st) = true) (tsh : toldShape tt.N (defScope tt.st) (defBody tt.st) = true)
    {qn : Str} (lF : Fun K qn qn tl.st fa fd) (lcode : fd.code = .ref c) (lsc : scB tl.N tl.ps (defScope tl.st) = true) (lnp : tl.ps.length = 1) (lck : ckSs2 ⟨tl.N, defScope tl.st, none, fns, gls, cls, false, false⟩ b (defBody tl.st) = true) :
    FnOk P w K mg base (L2N.CX P w) (k + 3) fa fd tl.ps (fun vs H Q _ => ∃ F ds, Same F H ∧ Reps ⟨K, mg⟩ F ds vs ∧ ds.length = 1 ∧ LamX.Tabs (lamT Pt qn) H ∧ run2 T.get gl cs k tl.N.length b ds = .ok (.d (.bl true)) ∧ ∀ H', Q (.bl true) H') := by
  obtain ⟨oc', od', kV', dc', pm', an', cd', ct', sl', rfl, lk', hcd⟩ := lF.ex
  have ecd : cd' = .ref c := lcode
  subst ecd
  refine fn_of lk' hcd (scope_by lsc) (fun vs H Q E1 ⟨F0, ds, _, r, l1, _⟩ => by rw [r.length, l1, lnp]) (fun A outer s H vs Q E1 hr ⟨F0, ds, sm, r, l1, tbs, o, fin⟩ => ?_)
  have hx : CtxOk (run T.get gl (k + 2)) gl ⟨tl.N, defScope tl.st, none, fns, gls, cls, false, false⟩ (cxOf (L2N.CX P w) P w K mg base tl.N qn (defScope tl.st) fa (.ref c) A outer s H E1) (fun c d _ H => E1 c d H) := {
    N := rfl
    nd := (scope_by lsc).nd
    sc := rfl
    calm := fun _ => rfl
    hu := by
      have := hr.un
      show (A.deeper _).units + 70 < cLine
      omega
    pa := fun σ => L2N.passAt (L2N.takes_of rfl rfl rfl rfl) σ
    df := fun _ => ⟨L2N.takes_of rfl rfl rfl rfl, rfl, rfl⟩
    fn := fun _ => rfl
    blt := E.blt
    gls := E.gls
    cls := E.cls
    exi := E.exi
    bnd := fun z => nomatch z
    fns := fun g hg => by
      obtain ⟨t', ht⟩ := Option.isSome_iff_exists.mp (hf g hg)
      obtain ⟨fa', fd', m1, m2, m3, m4⟩ := E.defs _ (lookup_mem ht)
      exact ⟨k + 2, fa', fd', t'.ps, m1, m2, m4, hr, run_ok E fns hf ok (k + 2) g t' fa' fd' ht m3⟩ }
  have M : Told (cxOf (L2N.CX P w) P w K mg base tl.N qn (defScope tl.st) fa (.ref c) A outer s H E1) (lamT Pt qn) k cs (run T.get gl (k + 1) "_law_class") := {
    room := hr
    tab := ⟨c, Pt, TB, rfl, lamT_mem (X := cxOf (L2N.CX P w) P w K mg base tl.N qn (defScope tl.st) fa (.ref c) A outer s H E1) rfl Pt, lamT_one (X := cxOf (L2N.CX P w) P w K mg base tl.N qn (defScope tl.st) fa (.ref c) A outer s H E1) rfl Pt⟩
    err := by
      obtain ⟨c0, h0⟩ := List.exists_mem_of_ne_nil cs ne
      obtain ⟨C0, eC0⟩ := E.cls c0 (hcs c0 h0)
      obtain ⟨_, _, _, S, hS, _⟩ := E.exi c0 (hcs c0 h0) C0 eC0.at_
      refine ⟨S, hS, fun c' hc' C hm => ?_⟩
      obtain ⟨_, _, _, S', hS', q⟩ := E.exi c' (hcs c' hc') C hm
      rw [hS] at hS'
      cases hS'
      exact q
    cls := by
      obtain ⟨fc, fdc, m1, m2, m3, m4⟩ := E.defs _ (lookup_mem hc)
      exact ⟨fc, fdc, tc.ps, m1, m2, m4, run_okH E okc k hc m3⟩
    told := by
      obtain ⟨oc2, od2, kV2, dc2, pm2, an2, cd2, ct2, sl2, rfl, lk2, hcd2⟩ := tF.ex
      obtain ⟨a, ea⟩ := tps
      rw [ea] at tb
      have S2 := scope_by tsc
      rw [ea] at S2
      exact ⟨ft, _, _, _, _, _, _, _, cd2, ct2, oc2, an2, od2, sl2, tt.N, a, tme, tkp, lk2, hcd2, tb, S2, tsh⟩ }
  refine ⟨_, sndSs2 (cl' := run T.get gl k) ⟨rfl, rfl⟩ hx (passes_of rfl) (fun g hg => ?_) b _ (fun _ => M.tabR) (fun _ => M) lck, ?_⟩
  · obtain ⟨t', ht⟩ := Option.isSome_iff_exists.mp (hf g hg)
    obtain ⟨fa', fd', m1, m2, m3, m4⟩ := E.defs _ (lookup_mem ht)
    exact ⟨fa', fd', t'.ps, m1, m2, m4, run_ok E fns hf ok k g t' fa' fd' ht m3⟩
  · refine ⟨_, H, F0, G81.start ⟨1, tl.N.length, .nil⟩ ds, rel_start sm r rfl, tbs, ?_⟩
    unfold run2 at o
    cases ev : evSs2 (run T.get gl (k + 2)) (run T.get gl k) gl cs (run T.get gl (k + 1) "_law_class") b (G81.start ⟨1, tl.N.length, .nil⟩ ds) with
    | nx ρ => rw [ev] at o; cases o
    | rt w =>
      rw [ev] at o
      cases o
      intro H0' F' H' v wr
      have e : v = .bl true := wr
      subst e
      exact fin H'
    | bk ρ => rw [ev] at o; cases o
    | ct ρ => rw [ev] at o; cases o
    | exc c ρ => rw [ev] at o; cases o
    | stuck => rw [ev] at o; cases o
end
end G81
end
section
set_option Elab.async false
set_option linter.all false
set_option maxHeartbeats 1000000
namespace G81
open PySem PySem.Spec PyProof.Rows L2
def tabChk (K : PySem.W.Frag) (f : Str) : Bool :=
  match PySem.W.tabIn K f with
  | some (c, P) => PySem.W.codeHdIn K c P && (K.lookup P).isNone
  | none => false
theorem tab_parts {K : PySem.W.Frag} {f : Str} {c P : Addr} (h : PySem.W.tabIn K f = some (c, P)) : ∃ (fa : Addr) (o : Obj) (fd : FuncData) (e : Value) (dd : Option Addr) (vs : Array Value) (sl : Array (Option Value)), PySem.W.nsIn K mainGlobals f = some (some (.ref fa)) ∧
    K.lookup fa = some o ∧ o.data = .func fd ∧ fd.code = .ref c ∧ K.lookup c = some ⟨e, dd, .fields vs, sl⟩ ∧ vs[11]? = some (.ref P) := by
  unfold PySem.W.tabIn at h
  split at h
  case h_2 => cases h
  rename_i fa hf
  split at h
  case h_2 => cases h
  rename_i e1 d1 fd s1 hfo
  split at h
  case h_2 => cases h
  rename_i c2 hc
  split at h
  case h_2 => cases h
  rename_i e2 d2 vs s2 hco
  split at h
  case h_2 => cases h
  rename_i P2 hv
  cases h
  exact ⟨fa, _, fd, e2, d2, vs, s2, hf, hfo, rfl, hc, hco, hv⟩
theorem walk_law2 {l : PySem.W.OpenLaw} {q : Program} {loose : List Str} {XP : (Str → Option Value) → Heap → Prop} {YP : World → Heap → Prop} {d : DefRec} {K : Params → PySem.W.Frag} {k n : Nat} {T : Tab} {gl : Str → Option D} {fns gls cls cs : List Str} {tl tt tc : DT} {b : List S2} {x a : Str}
    (hn : l.most = some n) (hn2 : n ≤ sizeLine) (hdf : d.params.defaults = []) (hr : Room (k + 3) callerA) (hrec : ((recsOf q).any fun e => e.name == d.name) = true) (hY : ∀ (w : World) (h : Heap), YP w h → (K w.params).In h) (hd : d.name = "law") (hx : tl.ps = [x]) (ha : tt.ps = [a])
    (hb : ∀ p ∈ (("law", tl) :: ("_law_told", tt) :: T : Tab), BindOk p.1 p.2) (hf : ∀ f ∈ fns, (T.lookup f).isSome = true) (ok : ∀ p ∈ T, p.2.ok fns gls cls = true) (hc : T.lookup ("_law_class" : Str) = some tc) (okc : tc.okH gls cls = true) (hcs : ∀ c ∈ cs, c ∈ cls) (ne : cs ≠ [])
    (tsc : scB tt.N tt.ps (defScope tt.st) = true) (tsh : toldShape tt.N (defScope tt.st) (defBody tt.st) = true) (lsc : scB tl.N tl.ps (defScope tl.st) = true) (lck : ckSs2 ⟨tl.N, defScope tl.st, none, fns, gls, cls, false, false⟩ b (defBody tl.st) = true)
    (math : ∀ ns : List Int, ns.length ≤ n → run2 T.get gl cs k tl.N.length b [.lst (ns.map D.int)] = .ok (.d (.bl true)))
    (L : ∀ w : World, LawIn (K w.params) (("law", tl) :: ("_law_told", tt) :: T) gl gls cls) (LT : ∀ w : World, tabChk (K w.params) "law" = true) : PySem.W.WalkO q loose XP YP l.row.toRowW d [] (fun f vs => PySem.call f vs) := by
  refine LamX.walk_ofOwn (n := n) (k := k + 3) (x := x) (CX := fun w => L2N.CX l.prog w) hn hn2 hdf hr hrec hY (fun w mg fa h Y KX G hmg own => ?_) fun w H s e s' z => ?_
  · have EA := env_of (L w) KX G hb
    have E : Env1 (K w.params) mg T gl gls cls := ⟨fun p hp => EA.defs p (List.mem_cons_of_mem _ (List.mem_cons_of_mem _ hp)), EA.blt, EA.gls, EA.exi, EA.cls⟩
    have hch := LT w
    unfold tabChk at hch
    split at hch
    case h_2 => cases hch
    rename_i c Pt etab
    rw [Bool.and_eq_true] at hch
    obtain ⟨fa0, o0, fd0, e0, dd0, vs0, sl0, q1, q2, q3, q4, q5, q6⟩ := tab_parts etab
    obtain ⟨fa', fd, e1, k1, lF, lb⟩ := EA.defs ("law", tl) List.mem_cons_self
    obtain ⟨ft, fdt, t1, t2, t3, t4⟩ := EA.defs ("_law_told", tt) (List.mem_cons_of_mem _ List.mem_cons_self)
    rw [hd] at hmg
    have e2 := e1.symm.trans hmg
    cases e2
    have e3 := (PySem.W.mg_of KX G q1).symm.trans hmg
    cases e3
    have own1 := own c Pt o0 fd0 e0 dd0 vs0 sl0 q2 q3 q4 q5 q6
    have lcode : fd.code = .ref c := by
      obtain ⟨oc', od', kV', dc', pm', an', cd', ct', sl', rfl, lk', _⟩ := lF.ex
      rw [q2] at lk'
      cases lk'
      cases q3
      exact q4
    refine ⟨fd, [(c, Pt)], fun vs H Q _ => ∃ F ds, Same F H ∧ Reps ⟨K w.params, mg⟩ F ds vs ∧ ds.length = 1 ∧ LamX.Tabs (lamT Pt "law") H ∧ run2 T.get gl cs k tl.N.length b ds = .ok (.d (.bl true)) ∧ ∀ H', Q (.bl true) H', fun p hp => ?_, fun p hp => ?_, fun p hp => ?_, fun s v => ?_, fun H a ns hl _ hH hS => ?_, fun base KB GB hTB => ?_⟩
    · rw [List.mem_singleton.mp hp]
      exact own1
    · rw [List.mem_singleton.mp hp]
      exact Option.isNone_iff_eq_none.mp hch.2
    · rw [List.mem_singleton.mp hp]
      exact PySem.W.codeHd_of_K KX hch.1
    · obtain ⟨oc', od', kV', dc', pm', an', cd', ct', sl', rfl, lk', _⟩ := lF.ex
      have := hb _ List.mem_cons_self kV' dc' pm' an' cd' ct' [v] (by show 1 = tl.ps.length; rw [hx]; rfl)
      rw [show (("law", tl) : Str × DT).2.ps = [x] from hx] at this
      exact .of_eq this
    · have rd : Rd H a (.lst (ns.map V.int)) := by
        rcases hS with hS | ⟨o, its, n, hk, hc, _⟩
        · exact hS
        · exact (no_list (L w).nol hk hc).elim
      exact ⟨H, [.lst (ns.map D.int)], Same.refl H, ⟨_, _, rfl, ⟨a, _, rfl, rd, reps_ints ns⟩, rfl⟩, rfl, fun p hp => by
        rw [show p = (Pt, lamN ("law" ++ ".<locals>.")) from List.mem_singleton.mp hp]
        exact LamX.TabS.nil (hH (c, Pt) List.mem_cons_self), math ns hl, fun _ => rfl⟩
    · have R := law2_ok (base := base) (P := l.prog) (w := w) E fns hf ok hc okc hcs ne (k := k) (hTB (c, Pt) List.mem_cons_self) t1 t2 t3 t4 ⟨a, ha⟩ tsc tsh lF lcode lsc (by rw [hx]; rfl) lck
      rw [hx] at R
      exact R
  · obtain ⟨_, _, _, _, _, _, _, _, _, _, _, _, z⟩ := z
    exact z.elim
end G81
end
section
set_option Elab.async false
set_option linter.all false
set_option maxHeartbeats 1000000
namespace G81
open PySem PySem.Spec PyProof.Rows L2
section
variable {P : Program} {w : World} {K : PySem.W.Frag} {mg : Str → Option Value} {base : Heap} {T : Tab} {gl : Str → Option D} {gls cls : List Str}
theorem law2s_ok (E : Env1 K mg T gl gls cls) (fns : List Str) (hf : ∀ f ∈ fns, (T.lookup f).isSome = true) (ok : ∀ p ∈ T, p.2.ok fns gls cls = true) {tl : DT}
    {b : List S2} (nt : b.any hasTold = false) {cs : List Str} {k : Nat} {fa c Pt : Addr} {fd : FuncData} (TB : LamX.TabB base mg c Pt)
    {qn : Str} (lF : Fun K qn qn tl.st fa fd) (lcode : fd.code = .ref c) (lsc : scB tl.N tl.ps (defScope tl.st) = true) (lnp : tl.ps.length = 1) (lck : ckSs2 ⟨tl.N, defScope tl.st, none, fns, gls, cls, false, false⟩ b (defBody tl.st) = true) :
    FnOk P w K mg base (L2N.CX P w) (k + 3) fa fd tl.ps (fun vs H Q _ => ∃ F ds, Same F H ∧ Reps ⟨K, mg⟩ F ds vs ∧ ds.length = 1 ∧ LamX.Tabs (lamT Pt qn) H ∧ run2 T.get gl cs k tl.N.length b ds = .ok (.d (.bl true)) ∧ ∀ H', Q (.bl true) H') := by
  obtain ⟨oc', od', kV', dc', pm', an', cd', ct', sl', rfl, lk', hcd⟩ := lF.ex
  have ecd : cd' = .ref c := lcode
  subst ecd
  refine fn_of lk' hcd (scope_by lsc) (fun vs H Q E1 ⟨F0, ds, _, r, l1, _⟩ => by rw [r.length, l1, lnp]) (fun A outer s H vs Q E1 hr ⟨F0, ds, sm, r, l1, tbs, o, fin⟩ => ?_)
  have hx : CtxOk (run T.get gl (k + 2)) gl ⟨tl.N, defScope tl.st, none, fns, gls, cls, false, false⟩ (cxOf (L2N.CX P w) P w K mg base tl.N qn (defScope tl.st) fa (.ref c) A outer s H E1) (fun c d _ H => E1 c d H) := {
    N := rfl
    nd := (scope_by lsc).nd
    sc := rfl
    calm := fun _ => rfl
    hu := by
      have := hr.un
      show (A.deeper _).units + 70 < cLine
      omega
    pa := fun σ => L2N.passAt (L2N.takes_of rfl rfl rfl rfl) σ
    df := fun _ => ⟨L2N.takes_of rfl rfl rfl rfl, rfl, rfl⟩
    fn := fun _ => rfl
    blt := E.blt
    gls := E.gls
    cls := E.cls
    exi := E.exi
    bnd := fun z => nomatch z
    fns := fun g hg => by
      obtain ⟨t', ht⟩ := Option.isSome_iff_exists.mp (hf g hg)
      obtain ⟨fa', fd', m1, m2, m3, m4⟩ := E.defs _ (lookup_mem ht)
      exact ⟨k + 2, fa', fd', t'.ps, m1, m2, m4, hr, run_ok E fns hf ok (k + 2) g t' fa' fd' ht m3⟩ }
  have M0 : TabR (cxOf (L2N.CX P w) P w K mg base tl.N qn (defScope tl.st) fa (.ref c) A outer s H E1) (lamT Pt qn) := {
    room := hr.mono (by omega)
    tab := ⟨c, Pt, TB, rfl, lamT_mem (X := cxOf (L2N.CX P w) P w K mg base tl.N qn (defScope tl.st) fa (.ref c) A outer s H E1) rfl Pt, lamT_one (X := cxOf (L2N.CX P w) P w K mg base tl.N qn (defScope tl.st) fa (.ref c) A outer s H E1) rfl Pt⟩ }
  refine ⟨_, sndSs2 (cl' := run T.get gl k) (k := k) (cs := cs) (word := run T.get gl (k + 1) "_law_class") ⟨rfl, rfl⟩ hx (passes_of rfl) (fun g hg => ?_) b _ (fun _ => M0) (fun z => by rw [nt] at z; cases z) lck, ?_⟩
  · obtain ⟨t', ht⟩ := Option.isSome_iff_exists.mp (hf g hg)
    obtain ⟨fa', fd', m1, m2, m3, m4⟩ := E.defs _ (lookup_mem ht)
    exact ⟨fa', fd', t'.ps, m1, m2, m4, run_ok E fns hf ok k g t' fa' fd' ht m3⟩
  · refine ⟨_, H, F0, G81.start ⟨1, tl.N.length, .nil⟩ ds, rel_start sm r rfl, tbs, ?_⟩
    unfold run2 at o
    cases ev : evSs2 (run T.get gl (k + 2)) (run T.get gl k) gl cs (run T.get gl (k + 1) "_law_class") b (G81.start ⟨1, tl.N.length, .nil⟩ ds) with
    | nx ρ => rw [ev] at o; cases o
    | rt w =>
      rw [ev] at o
      cases o
      intro H0' F' H' v wr
      have e : v = .bl true := wr
      subst e
      exact fin H'
    | bk ρ => rw [ev] at o; cases o
    | ct ρ => rw [ev] at o; cases o
    | exc c ρ => rw [ev] at o; cases o
    | stuck => rw [ev] at o; cases o
end
theorem walk_law2s {l : PySem.W.OpenLaw} {q : Program} {loose : List Str} {XP : (Str → Option Value) → Heap → Prop} {YP : World → Heap → Prop} {d : DefRec} {K : Params → PySem.W.Frag} {k n : Nat} {T : Tab} {gl : Str → Option D} {fns gls cls cs : List Str} {tl : DT} {b : List S2} {x : Str}
    (hn : l.most = some n) (hn2 : n ≤ sizeLine) (hdf : d.params.defaults = []) (hr : Room (k + 3) callerA) (hrec : ((recsOf q).any fun e => e.name == d.name) = true) (hY : ∀ (w : World) (h : Heap), YP w h → (K w.params).In h) (hd : d.name = "law") (hx : tl.ps = [x]) (nt : b.any hasTold = false)
    (hb : ∀ p ∈ (("law", tl) :: T : Tab), BindOk p.1 p.2) (hf : ∀ f ∈ fns, (T.lookup f).isSome = true) (ok : ∀ p ∈ T, p.2.ok fns gls cls = true)
    (lsc : scB tl.N tl.ps (defScope tl.st) = true) (lck : ckSs2 ⟨tl.N, defScope tl.st, none, fns, gls, cls, false, false⟩ b (defBody tl.st) = true)
    (math : ∀ ns : List Int, ns.length ≤ n → run2 T.get gl cs k tl.N.length b [.lst (ns.map D.int)] = .ok (.d (.bl true)))
    (L : ∀ w : World, LawIn (K w.params) (("law", tl) :: T) gl gls cls) (LT : ∀ w : World, tabChk (K w.params) "law" = true) : PySem.W.WalkO q loose XP YP l.row.toRowW d [] (fun f vs => PySem.call f vs) := by
  refine LamX.walk_ofOwn (n := n) (k := k + 3) (x := x) (CX := fun w => L2N.CX l.prog w) hn hn2 hdf hr hrec hY (fun w mg fa h Y KX G hmg own => ?_) fun w H s e s' z => ?_
  · have EA := env_of (L w) KX G hb
    have E : Env1 (K w.params) mg T gl gls cls := ⟨fun p hp => EA.defs p (List.mem_cons_of_mem _ hp), EA.blt, EA.gls, EA.exi, EA.cls⟩
    have hch := LT w
    unfold tabChk at hch
    split at hch
    case h_2 => cases hch
    rename_i c Pt etab
    rw [Bool.and_eq_true] at hch
    obtain ⟨fa0, o0, fd0, e0, dd0, vs0, sl0, q1, q2, q3, q4, q5, q6⟩ := tab_parts etab
    obtain ⟨fa', fd, e1, k1, lF, lb⟩ := EA.defs ("law", tl) List.mem_cons_self
    rw [hd] at hmg
    have e2 := e1.symm.trans hmg
    cases e2
    have e3 := (PySem.W.mg_of KX G q1).symm.trans hmg
    cases e3
    have own1 := own c Pt o0 fd0 e0 dd0 vs0 sl0 q2 q3 q4 q5 q6
    have lcode : fd.code = .ref c := by
      obtain ⟨oc', od', kV', dc', pm', an', cd', ct', sl', rfl, lk', _⟩ := lF.ex
      rw [q2] at lk'
      cases lk'
      cases q3
      exact q4
    refine ⟨fd, [(c, Pt)], fun vs H Q _ => ∃ F ds, Same F H ∧ Reps ⟨K w.params, mg⟩ F ds vs ∧ ds.length = 1 ∧ LamX.Tabs (lamT Pt "law") H ∧ run2 T.get gl cs k tl.N.length b ds = .ok (.d (.bl true)) ∧ ∀ H', Q (.bl true) H', fun p hp => ?_, fun p hp => ?_, fun p hp => ?_, fun s v => ?_, fun H a ns hl _ hH hS => ?_, fun base KB GB hTB => ?_⟩
    · rw [List.mem_singleton.mp hp]
      exact own1
    · rw [List.mem_singleton.mp hp]
      exact Option.isNone_iff_eq_none.mp hch.2
    · rw [List.mem_singleton.mp hp]
      exact PySem.W.codeHd_of_K KX hch.1
    · obtain ⟨oc', od', kV', dc', pm', an', cd', ct', sl', rfl, lk', _⟩ := lF.ex
      have := hb _ List.mem_cons_self kV' dc' pm' an' cd' ct' [v] (by show 1 = tl.ps.length; rw [hx]; rfl)
      rw [show (("law", tl) : Str × DT).2.ps = [x] from hx] at this
      exact .of_eq this
    · have rd : Rd H a (.lst (ns.map V.int)) := by
        rcases hS with hS | ⟨o, its, n, hk, hc, _⟩
        · exact hS
        · exact (no_list (L w).nol hk hc).elim
      exact ⟨H, [.lst (ns.map D.int)], Same.refl H, ⟨_, _, rfl, ⟨a, _, rfl, rd, reps_ints ns⟩, rfl⟩, rfl, fun p hp => by
        rw [show p = (Pt, lamN ("law" ++ ".<locals>.")) from List.mem_singleton.mp hp]
        exact LamX.TabS.nil (hH (c, Pt) List.mem_cons_self), math ns hl, fun _ => rfl⟩
    · have R := law2s_ok (base := base) (P := l.prog) (w := w) E fns hf ok nt (cs := cs) (k := k) (hTB (c, Pt) List.mem_cons_self) lF lcode lsc (by rw [hx]; rfl) lck
      rw [hx] at R
      exact R
  · obtain ⟨_, _, _, _, _, _, _, _, _, _, _, _, z⟩ := z
    exact z.elim
end G81
end
section
set_option linter.all false
set_option maxRecDepth 100000
set_option maxHeartbeats 4000000
namespace G81
open PySem PySem.Spec L2
theorem run_go {Γ : Str → Option FD} {gl : Str → Option D} {n : Nat} {f : Str} {fd : FD} {ds : List D} {ρ : En} (h : Γ f = some fd) (l : ds.length = fd.np) (e : G81.start fd ds = ρ) : run Γ gl (n + 1) f ds = outF (evSs (run Γ gl n) gl fd.body ρ) := by
  unfold run
  rw [h]
  simp only [l, if_true, e]
def c__law_cell : Ss := (.cons (.ife (.cmp .Lt (.var 1) (.bi .len (.cons (.var 0) .nil))) (.cons (.ret (.ix (.var 0) (.var 1))) .nil) .nil) (.cons (.ife (.cmp .Eq (.var 0)
   (.lst .nil)) (.cons (.ret (.k (.int 0))) .nil) .nil) (.cons (.ret (.bin .Add (.bin .Mult (.ix (.var 0) (.bin .Mod (.var 1) (.bi .len (.cons (.var
   0) .nil)))) (.k (.int 31))) (.var 1))) .nil)))
def fd__law_cell : FD := ⟨2, 2, c__law_cell⟩
theorem go__law_cell {Γ : Str → Option FD} (h : Γ "_law_cell" = some fd__law_cell) (gl : Str → Option D) (n : Nat) (a0 a1 : D) : run Γ gl (n + 1) "_law_cell" [a0, a1] = outF (evSs (run Γ gl n) gl c__law_cell [.v a0, .v a1]) := run_go h rfl rfl
def c__law_pick : Ss := (.cons (.asg (.one 3) (.bin .Mod (.bin .Mult (.bin .Add (.call "_law_cell" (.cons (.var 0) (.cons (.var 1) .nil))) (.bin .Mult (.k (.int 6151)) (.bin
   .Add (.var 1) (.k (.int 1))))) (.k (.int 40692))) (.k (.int 2147483399)))) (.cons (.ret (.bin .Mod (.bin .Mod (.bin .Add (.bin .Mult (.var 3) (.var
   3)) (.bin .FloorDiv (.var 3) (.k (.int 31)))) (.k (.int 2147483629))) (.var 2))) .nil))
def fd__law_pick : FD := ⟨3, 4, c__law_pick⟩
theorem go__law_pick {Γ : Str → Option FD} (h : Γ "_law_pick" = some fd__law_pick) (gl : Str → Option D) (n : Nat) (a0 a1 a2 : D) : run Γ gl (n + 1) "_law_pick" [a0, a1, a2] = outF (evSs (run Γ gl n) gl c__law_pick [.v a0, .v a1, .v a2, .no]) := run_go h rfl rfl
def x__law_sheet_1 : Ss := (.cons (.asg (.one 7) (.call "_law_pick" (.cons (.var 0) (.cons (.bin .Add (.bin .Add (.var 1) (.k (.int 10))) (.bin .Mult (.k (.int 3)) (.var 6)))
   (.cons (.var 3) .nil))))) (.cons (.asg (.one 8) (.bin .Add (.k (.int 1)) (.call "_law_pick" (.cons (.var 0) (.cons (.bin .Add (.bin .Add (.var 1)
   (.k (.int 11))) (.bin .Mult (.k (.int 3)) (.var 6))) (.cons (.ix (.lst (.cons (.k (.int 3)) (.cons (.k (.int 8)) (.cons (.var 3) .nil)))) (.call "_law_pick"
   (.cons (.var 0) (.cons (.bin .Add (.bin .Add (.var 1) (.k (.int 12))) (.bin .Mult (.k (.int 3)) (.var 6))) (.cons (.k (.int 3)) .nil)))))
   .nil)))))) (.cons (.app 5 (.tup (.cons (.ix (.var 4) (.var 6)) (.cons (.var 7) (.cons (.bin .Add (.var 7) (.var 8)) .nil))))) .nil)))
def c__law_sheet : Ss := (.cons (.asg (.one 3) (.ix (.lst (.cons (.k (.int 12)) (.cons (.k (.int 30)) (.cons (.k (.int 30)) (.cons (.k (.int 200)) .nil))))) (.call "_law_pick"
   (.cons (.var 0) (.cons (.var 1) (.cons (.k (.int 4)) .nil)))))) (.cons (.asg (.one 4) (.lst (.cons (.k (.str "a")) (.cons (.k (.str "b")) (.cons
   (.k (.str "cc")) (.cons (.k (.str "d")) (.cons (.k (.str "e")) (.cons (.k (.str "fx")) (.cons (.k (.str "g")) (.cons (.k (.str "h")) (.cons (.k
   (.str "i")) (.cons (.k (.str "jjjj")) .nil)))))))))))) (.cons (.keep 5 (.lst .nil)) (.cons (.for (.one 6) (.rng1 (.call "_law_pick" (.cons (.var 0)
   (.cons (.bin .Add (.var 1) (.k (.int 1))) (.cons (.bin .Add (.var 2) (.k (.int 1))) .nil))))) x__law_sheet_1) (.cons (.ret (.bi .tuple (.cons (.var
   5) .nil))) .nil)))))
def fd__law_sheet : FD := ⟨3, 9, c__law_sheet⟩
theorem go__law_sheet {Γ : Str → Option FD} (h : Γ "_law_sheet" = some fd__law_sheet) (gl : Str → Option D) (n : Nat) (a0 a1 a2 : D) : run Γ gl (n + 1) "_law_sheet" [a0, a1, a2] = outF (evSs (run Γ gl n) gl c__law_sheet [.v a0, .v a1, .v a2, .no, .no, .no, .no, .no, .no]) := run_go h rfl rfl
def x_meeting_of_1 : Ss := (.cons (.ife (.cmp .Eq (.ix (.var 2) (.k (.int 0))) (.var 1)) (.cons (.ret (.var 2)) .nil) .nil) .nil)
def c_meeting_of : Ss := (.cons (.for (.one 2) (.seq (.var 0)) x_meeting_of_1) (.cons (.raise "NoMeeting") .nil))
def fd_meeting_of : FD := ⟨2, 3, c_meeting_of⟩
theorem go_meeting_of {Γ : Str → Option FD} (h : Γ "meeting_of" = some fd_meeting_of) (gl : Str → Option D) (n : Nat) (a0 a1 : D) : run Γ gl (n + 1) "meeting_of" [a0, a1] = outF (evSs (run Γ gl n) gl c_meeting_of [.v a0, .v a1, .no]) := run_go h rfl rfl
def c__law_word : Ss := (.cons (.keep 1 (.lst (.cons (.isx (.var 0) "NoMeeting" ["NoMeeting", "Taken", "NoTime", "TooMany", "NoZone", "NoText"]) (.cons (.isx (.var 0) "NoText" ["NoMeeting", "Taken", "NoTime", "TooMany", "NoZone", "NoText"])
   (.cons (.isx (.var 0) "NoTime" ["NoMeeting", "Taken", "NoTime", "TooMany", "NoZone", "NoText"]) (.cons (.isx (.var 0) "NoZone" ["NoMeeting", "Taken", "NoTime", "TooMany", "NoZone", "NoText"])
   .nil)))))) (.cons (.ext 1 (.lst (.cons (.isx (.var 0) "Taken" ["NoMeeting", "Taken", "NoTime", "TooMany", "NoZone", "NoText"]) (.cons (.isx (.var
   0) "TooMany" ["NoMeeting", "Taken", "NoTime", "TooMany", "NoZone", "NoText"]) .nil)))) (.cons (.ife (.or (.cmp .NotEq (.me .count (.var 1) (.cons
   (.k (.bl true)) .nil)) (.k (.int 1))) (.not (.isx (.var 0) "ValueError" ["NoMeeting", "Taken", "NoTime", "TooMany", "NoZone", "NoText"]))) (.cons
   (.ret (.k (.str "wrong"))) .nil) .nil) (.cons (.ret (.ix (.lst (.cons (.k (.str "no meeting")) (.cons (.k (.str "no text")) (.cons (.k (.str "no time"))
   (.cons (.k (.str "no zone")) (.cons (.k (.str "taken")) (.cons (.k (.str "too many")) .nil))))))) (.me .index (.var 1) (.cons (.k (.bl true))
   .nil)))) .nil))))
def fd__law_word : FD := ⟨1, 2, c__law_word⟩
theorem go__law_word {Γ : Str → Option FD} (h : Γ "_law_word" = some fd__law_word) (gl : Str → Option D) (n : Nat) (a0 : D) : run Γ gl (n + 1) "_law_word" [a0] = outF (evSs (run Γ gl n) gl c__law_word [.v a0, .no]) := run_go h rfl rfl
def x__law_told_v1_1 : Ss := (.cons (.asg (.one 3) (.call "group_of" (.cons (.var 0) (.cons (.var 1) .nil)))) .nil)
def c__law_told_v1 : Ss := (.cons (.asg (.one 2) (.k .non)) (.cons (.asg (.one 3) (.k .non)) (.cons (.tryk 4 2 x__law_told_v1_1 ["NoMeeting", "Taken", "NoTime", "TooMany", "NoZone", "NoText"])
   (.cons (.ife (.cmp .Is (.var 2) (.k .non)) (.cons (.ret (.var 3)) .nil) .nil) (.cons (.ret (.call "_law_word" (.cons (.var 2) .nil))) .nil)))))
def fd__law_told_v1 : FD := ⟨2, 5, c__law_told_v1⟩
theorem go__law_told_v1 {Γ : Str → Option FD} (h : Γ "_law_told" = some fd__law_told_v1) (gl : Str → Option D) (n : Nat) (a0 a1 : D) : run Γ gl (n + 1) "_law_told" [a0, a1] = outF (evSs (run Γ gl n) gl c__law_told_v1 [.v a0, .v a1, .no, .no, .no]) := run_go h rfl rfl
def x_laying_order_1 : C := (.tup (.cons (.ix (.var 2) (.k (.int 1))) (.cons (.bin .Sub (.k (.int 0)) (.ix (.var 2) (.k (.int 2)))) (.cons (.ix (.var 2) (.k (.int 0))) .nil))))
def x_laying_order_2 : C := (.tup (.cons (.var 5) (.cons (.var 3) (.cons (.bin .Sub (.k (.int 0)) (.var 4)) .nil))))
def c_laying_order : Ss := (.cons (.asg (.one 1) (.bi .sorted (.cons (.comp x_laying_order_1 (.one 2) (.seq (.var 0)) .no [2]) .nil))) (.cons (.ret (.comp x_laying_order_2 (.tup
   [3, 4, 5]) (.seq (.var 1)) .no [3, 4, 5])) .nil))
def fd_laying_order : FD := ⟨1, 6, c_laying_order⟩
theorem go_laying_order {Γ : Str → Option FD} (h : Γ "laying_order" = some fd_laying_order) (gl : Str → Option D) (n : Nat) (a0 : D) : run Γ gl (n + 1) "laying_order" [a0] = outF (evSs (run Γ gl n) gl c_laying_order [.v a0, .no, .no, .no, .no, .no]) := run_go h rfl rfl
def x_groups_1 : C := (.bi .sorted (.cons (.var 4) .nil))
def c_groups : Ss := (.cons (.keep 1 (.lst .nil)) (.cons (.asg (.one 2) (.k (.int 0))) (.cons (.grp 1 2 3 (.seq (.call "laying_order" (.cons (.var 0) .nil)))) (.cons (.ret
   (.comp x_groups_1 (.one 4) (.seq (.var 1)) .no [4])) .nil))))
def fd_groups : FD := ⟨1, 5, c_groups⟩
theorem go_groups {Γ : Str → Option FD} (h : Γ "groups" = some fd_groups) (gl : Str → Option D) (n : Nat) (a0 : D) : run Γ gl (n + 1) "groups" [a0] = outF (evSs (run Γ gl n) gl c_groups [.v a0, .no, .no, .no, .no]) := run_go h rfl rfl
def x_group_of_1 : C := (.var 2)
def x_group_of_2 : Co := .so (.cmp .In (.var 1) (.var 2))
def c_group_of : Ss := (.cons (.ex (.call "meeting_of" (.cons (.var 0) (.cons (.var 1) .nil)))) (.cons (.ret (.ix (.comp x_group_of_1 (.one 2) (.seq (.call "groups" (.cons
   (.var 0) .nil))) x_group_of_2 [2]) (.k (.int 0)))) .nil))
def fd_group_of : FD := ⟨2, 3, c_group_of⟩
theorem go_group_of {Γ : Str → Option FD} (h : Γ "group_of" = some fd_group_of) (gl : Str → Option D) (n : Nat) (a0 a1 : D) : run Γ gl (n + 1) "group_of" [a0, a1] = outF (evSs (run Γ gl n) gl c_group_of [.v a0, .v a1, .no]) := run_go h rfl rfl
def c__law_over : Ss := (.cons (.ret (.cmp .Lt (.bi .max (.cons (.ix (.var 0) (.k (.int 1))) (.cons (.ix (.var 1) (.k (.int 1))) .nil))) (.bi .min (.cons (.ix (.var 0) (.k
   (.int 2))) (.cons (.ix (.var 1) (.k (.int 2))) .nil))))) .nil)
def fd__law_over : FD := ⟨2, 2, c__law_over⟩
theorem go__law_over {Γ : Str → Option FD} (h : Γ "_law_over" = some fd__law_over) (gl : Str → Option D) (n : Nat) (a0 a1 : D) : run Γ gl (n + 1) "_law_over" [a0, a1] = outF (evSs (run Γ gl n) gl c__law_over [.v a0, .v a1]) := run_go h rfl rfl
def x__law_group_1 : C := (.tup (.cons (.ix (.var 5) (.k (.int 0))) (.cons (.var 5) .nil)))
def x__law_group_2 : C := (.cmp .Lt (.var 3) (.bi .len (.cons (.var 2) .nil)))
def x__law_group_3 : Ss := (.cons (.ife (.and (.cmp .NotIn (.ix (.var 5) (.k (.int 0))) (.var 2)) (.call "_law_over" (.cons (.var 5) (.cons (.ix (.var 4) (.ix (.var 2) (.var
   3))) .nil)))) (.cons (.app 2 (.ix (.var 5) (.k (.int 0)))) .nil) .nil) .nil)
def x__law_group_4 : Ss := (.cons (.for (.one 5) (.seq (.var 0)) x__law_group_3) (.cons (.asg (.one 3) (.bin .Add (.var 3) (.k (.int 1)))) .nil))
def c__law_group : Ss := (.cons (.keep 2 (.lst (.cons (.var 1) .nil))) (.cons (.asg (.one 3) (.k (.int 0))) (.cons (.asg (.one 4) (.bi .dict (.cons (.comp x__law_group_1 (.one
   5) (.seq (.var 0)) .no [5]) .nil))) (.cons (.while x__law_group_2 x__law_group_4) (.cons (.ret (.bi .sorted (.cons (.var 2) .nil))) .nil)))))
def fd__law_group : FD := ⟨2, 6, c__law_group⟩
theorem go__law_group {Γ : Str → Option FD} (h : Γ "_law_group" = some fd__law_group) (gl : Str → Option D) (n : Nat) (a0 a1 : D) : run Γ gl (n + 1) "_law_group" [a0, a1] = outF (evSs (run Γ gl n) gl c__law_group [.v a0, .v a1, .no, .no, .no, .no]) := run_go h rfl rfl
end G81
end
section
set_option linter.all false
set_option maxHeartbeats 1000000
namespace G81
open PySem PySem.Spec L2
section
variable {α β : Type}
theorem bind_ok (a : α) (f : α → R β) : (R.ok a).bind f = f a := rfl
theorem bind_exc (c : Str) (f : α → R β) : (R.exc c).bind f = .exc c := rfl
theorem rmap_ok (a : α) (f : α → β) : (R.ok a).map f = .ok (f a) := rfl
theorem of_some (a : α) : R.of (some a) = .ok a := rfl
theorem outR_ok (a : α) (ρ : En) (f : α → Fl) : outR (.ok a) ρ f = f a := rfl
theorem outR_exc (c : Str) (ρ : En) (f : α → Fl) : outR (.exc c) ρ f = .exc c ρ := rfl
theorem outO_some (ρ : En) : outO (some ρ) = .nx ρ := rfl
theorem tru_bl (b : Bool) : tru (.ok (.d (.bl b))) = .ok b := rfl
theorem okInt_ok (i : Int) : okInt (.ok (.int i)) = .ok i := rfl
theorem outF_rt (w : W) : outF (.rt w) = .ok w := rfl
theorem outF_nx (ρ : En) : outF (.nx ρ) = .ok (.d .non) := rfl
theorem notR_ok (b : Bool) : notR (.ok b) = .ok (!b) := rfl
theorem asgn_one (i : Nat) (d : D) (ρ : En) : asgn (.one i) d ρ = some (ρ.set i (.v d)) := rfl
theorem asgn_tup (is : List Nat) (ds : List D) (ρ : En) : asgn (.tup is) (.tup ds) ρ = asgs is ds ρ := rfl
theorem asgs_nil (ρ : En) : asgs [] [] ρ = some ρ := rfl
theorem asgs_cons (i : Nat) (is : List Nat) (d : D) (ds : List D) (ρ : En) : asgs (i :: is) (d :: ds) ρ = asgs is ds (ρ.set i (.v d)) := rfl
theorem bo_var (i : Nat) (ρ : En) (r : R W) : bor (.var i) ρ r = rdB ρ i := rfl
theorem bor_k (d : D) (ρ : En) (r : R W) : bor (.k d) ρ r = r.map W.toD := rfl
theorem lent_k (d : D) (ρ : En) : lent (.k d) ρ = false := rfl
theorem retOf_k (d : D) (ρ : En) (w : W) : retOf (.k d) ρ (.ok w) = .rt w := rfl
theorem retOfx_k (d : D) (ρ : En) (w : Str) : retOf (.k d) ρ (.exc w) = .exc w ρ := rfl
theorem bor_glob (x : Str) (ρ : En) (r : R W) : bor (.glob x) ρ r = r.map W.toD := rfl
theorem lent_glob (x : Str) (ρ : En) : lent (.glob x) ρ = false := rfl
theorem retOf_glob (x : Str) (ρ : En) (w : W) : retOf (.glob x) ρ (.ok w) = .rt w := rfl
theorem retOfx_glob (x : Str) (ρ : En) (w : Str) : retOf (.glob x) ρ (.exc w) = .exc w ρ := rfl
theorem bor_tup (es : Cs) (ρ : En) (r : R W) : bor (.tup es) ρ r = r.map W.toD := rfl
theorem lent_tup (es : Cs) (ρ : En) : lent (.tup es) ρ = false := rfl
theorem retOf_tup (es : Cs) (ρ : En) (w : W) : retOf (.tup es) ρ (.ok w) = .rt w := rfl
theorem retOfx_tup (es : Cs) (ρ : En) (w : Str) : retOf (.tup es) ρ (.exc w) = .exc w ρ := rfl
theorem bor_lst (es : Cs) (ρ : En) (r : R W) : bor (.lst es) ρ r = r.map W.toD := rfl
theorem lent_lst (es : Cs) (ρ : En) : lent (.lst es) ρ = false := rfl
theorem retOf_lst (es : Cs) (ρ : En) (w : W) : retOf (.lst es) ρ (.ok w) = .rt w := rfl
theorem retOfx_lst (es : Cs) (ρ : En) (w : Str) : retOf (.lst es) ρ (.exc w) = .exc w ρ := rfl
theorem bor_dsp (ks vs : Cs) (ρ : En) (r : R W) : bor (.dsp ks vs) ρ r = r.map W.toD := rfl
theorem lent_dsp (ks vs : Cs) (ρ : En) : lent (.dsp ks vs) ρ = false := rfl
theorem retOf_dsp (ks vs : Cs) (ρ : En) (w : W) : retOf (.dsp ks vs) ρ (.ok w) = .rt w := rfl
theorem retOfx_dsp (ks vs : Cs) (ρ : En) (w : Str) : retOf (.dsp ks vs) ρ (.exc w) = .exc w ρ := rfl
theorem bor_bin (op : Operator) (a b : C) (ρ : En) (r : R W) : bor (.bin op a b) ρ r = r.map W.toD := rfl
theorem lent_bin (op : Operator) (a b : C) (ρ : En) : lent (.bin op a b) ρ = false := rfl
theorem retOf_bin (op : Operator) (a b : C) (ρ : En) (w : W) : retOf (.bin op a b) ρ (.ok w) = .rt w := rfl
theorem retOfx_bin (op : Operator) (a b : C) (ρ : En) (w : Str) : retOf (.bin op a b) ρ (.exc w) = .exc w ρ := rfl
theorem bor_neg (a : C) (ρ : En) (r : R W) : bor (.neg a) ρ r = r.map W.toD := rfl
theorem lent_neg (a : C) (ρ : En) : lent (.neg a) ρ = false := rfl
theorem retOf_neg (a : C) (ρ : En) (w : W) : retOf (.neg a) ρ (.ok w) = .rt w := rfl
theorem retOfx_neg (a : C) (ρ : En) (w : Str) : retOf (.neg a) ρ (.exc w) = .exc w ρ := rfl
theorem bor_not (a : C) (ρ : En) (r : R W) : bor (.not a) ρ r = r.map W.toD := rfl
theorem lent_not (a : C) (ρ : En) : lent (.not a) ρ = false := rfl
theorem retOf_not (a : C) (ρ : En) (w : W) : retOf (.not a) ρ (.ok w) = .rt w := rfl
theorem retOfx_not (a : C) (ρ : En) (w : Str) : retOf (.not a) ρ (.exc w) = .exc w ρ := rfl
theorem bor_and (a b : C) (ρ : En) (r : R W) : bor (.and a b) ρ r = r.map W.toD := rfl
theorem lent_and (a b : C) (ρ : En) : lent (.and a b) ρ = false := rfl
theorem retOf_and (a b : C) (ρ : En) (w : W) : retOf (.and a b) ρ (.ok w) = .rt w := rfl
theorem retOfx_and (a b : C) (ρ : En) (w : Str) : retOf (.and a b) ρ (.exc w) = .exc w ρ := rfl
theorem bor_or (a b : C) (ρ : En) (r : R W) : bor (.or a b) ρ r = r.map W.toD := rfl
theorem lent_or (a b : C) (ρ : En) : lent (.or a b) ρ = false := rfl
theorem retOf_or (a b : C) (ρ : En) (w : W) : retOf (.or a b) ρ (.ok w) = .rt w := rfl
theorem retOfx_or (a b : C) (ρ : En) (w : Str) : retOf (.or a b) ρ (.exc w) = .exc w ρ := rfl
theorem bor_cmp (op : CmpOp) (a b : C) (ρ : En) (r : R W) : bor (.cmp op a b) ρ r = r.map W.toD := rfl
theorem lent_cmp (op : CmpOp) (a b : C) (ρ : En) : lent (.cmp op a b) ρ = false := rfl
theorem retOf_cmp (op : CmpOp) (a b : C) (ρ : En) (w : W) : retOf (.cmp op a b) ρ (.ok w) = .rt w := rfl
theorem retOfx_cmp (op : CmpOp) (a b : C) (ρ : En) (w : Str) : retOf (.cmp op a b) ρ (.exc w) = .exc w ρ := rfl
theorem bor_chain (op op2 : CmpOp) (a b c : C) (ρ : En) (r : R W) : bor (.chain op op2 a b c) ρ r = r.map W.toD := rfl
theorem lent_chain (op op2 : CmpOp) (a b c : C) (ρ : En) : lent (.chain op op2 a b c) ρ = false := rfl
theorem retOf_chain (op op2 : CmpOp) (a b c : C) (ρ : En) (w : W) : retOf (.chain op op2 a b c) ρ (.ok w) = .rt w := rfl
theorem retOfx_chain (op op2 : CmpOp) (a b c : C) (ρ : En) (w : Str) : retOf (.chain op op2 a b c) ρ (.exc w) = .exc w ρ := rfl
theorem bor_ife (t a b : C) (ρ : En) (r : R W) : bor (.ife t a b) ρ r = r.map W.toD := rfl
theorem lent_ife (t a b : C) (ρ : En) : lent (.ife t a b) ρ = false := rfl
theorem retOf_ife (t a b : C) (ρ : En) (w : W) : retOf (.ife t a b) ρ (.ok w) = .rt w := rfl
theorem retOfx_ife (t a b : C) (ρ : En) (w : Str) : retOf (.ife t a b) ρ (.exc w) = .exc w ρ := rfl
theorem bor_ix (a i : C) (ρ : En) (r : R W) : bor (.ix a i) ρ r = r.map W.toD := rfl
theorem lent_ix (a i : C) (ρ : En) : lent (.ix a i) ρ = false := rfl
theorem retOf_ix (a i : C) (ρ : En) (w : W) : retOf (.ix a i) ρ (.ok w) = .rt w := rfl
theorem retOfx_ix (a i : C) (ρ : En) (w : Str) : retOf (.ix a i) ρ (.exc w) = .exc w ρ := rfl
theorem bor_sl (a : C) (lo hi : Co) (ρ : En) (r : R W) : bor (.sl a lo hi) ρ r = r.map W.toD := rfl
theorem lent_sl (a : C) (lo hi : Co) (ρ : En) : lent (.sl a lo hi) ρ = false := rfl
theorem retOf_sl (a : C) (lo hi : Co) (ρ : En) (w : W) : retOf (.sl a lo hi) ρ (.ok w) = .rt w := rfl
theorem retOfx_sl (a : C) (lo hi : Co) (ρ : En) (w : Str) : retOf (.sl a lo hi) ρ (.exc w) = .exc w ρ := rfl
theorem bor_comp (elt : C) (g : Pt) (it : It) (t : Co) (own : List Nat) (ρ : En) (r : R W) : bor (.comp elt g it t own) ρ r = r.map W.toD := rfl
theorem lent_comp (elt : C) (g : Pt) (it : It) (t : Co) (own : List Nat) (ρ : En) : lent (.comp elt g it t own) ρ = false := rfl
theorem retOf_comp (elt : C) (g : Pt) (it : It) (t : Co) (own : List Nat) (ρ : En) (w : W) : retOf (.comp elt g it t own) ρ (.ok w) = .rt w := rfl
theorem retOfx_comp (elt : C) (g : Pt) (it : It) (t : Co) (own : List Nat) (ρ : En) (w : Str) : retOf (.comp elt g it t own) ρ (.exc w) = .exc w ρ := rfl
theorem bor_call (f : Str) (es : Cs) (ρ : En) (r : R W) : bor (.call f es) ρ r = r.map W.toD := rfl
theorem lent_call (f : Str) (es : Cs) (ρ : En) : lent (.call f es) ρ = false := rfl
theorem retOf_call (f : Str) (es : Cs) (ρ : En) (w : W) : retOf (.call f es) ρ (.ok w) = .rt w := rfl
theorem retOfx_call (f : Str) (es : Cs) (ρ : En) (w : Str) : retOf (.call f es) ρ (.exc w) = .exc w ρ := rfl
theorem bor_bi (b : Bi) (es : Cs) (ρ : En) (r : R W) : bor (.bi b es) ρ r = r.map W.toD := rfl
theorem lent_bi (b : Bi) (es : Cs) (ρ : En) : lent (.bi b es) ρ = false := rfl
theorem retOf_bi (b : Bi) (es : Cs) (ρ : En) (w : W) : retOf (.bi b es) ρ (.ok w) = .rt w := rfl
theorem retOfx_bi (b : Bi) (es : Cs) (ρ : En) (w : Str) : retOf (.bi b es) ρ (.exc w) = .exc w ρ := rfl
theorem bor_me (m : Me) (o : C) (es : Cs) (ρ : En) (r : R W) : bor (.me m o es) ρ r = r.map W.toD := rfl
theorem lent_me (m : Me) (o : C) (es : Cs) (ρ : En) : lent (.me m o es) ρ = false := rfl
theorem retOf_me (m : Me) (o : C) (es : Cs) (ρ : En) (w : W) : retOf (.me m o es) ρ (.ok w) = .rt w := rfl
theorem retOfx_me (m : Me) (o : C) (es : Cs) (ρ : En) (w : Str) : retOf (.me m o es) ρ (.exc w) = .exc w ρ := rfl
theorem bor_chain3 (p q r : CmpOp) (a b c d : C) (ρ : En) (w : R W) : bor (.chain3 p q r a b c d) ρ w = w.map W.toD := rfl
theorem lent_chain3 (p q r : CmpOp) (a b c d : C) (ρ : En) : lent (.chain3 p q r a b c d) ρ = false := rfl
theorem retOf_chain3 (p q r : CmpOp) (a b c d : C) (ρ : En) (w : W) : retOf (.chain3 p q r a b c d) ρ (.ok w) = .rt w := rfl
theorem bor_isi (a : C) (ty : Ty) (ρ : En) (r : R W) : bor (.isi a ty) ρ r = r.map W.toD := rfl
theorem lent_isi (a : C) (ty : Ty) (ρ : En) : lent (.isi a ty) ρ = false := rfl
theorem retOf_isi (a : C) (ty : Ty) (ρ : En) (w : W) : retOf (.isi a ty) ρ (.ok w) = .rt w := rfl
theorem retOfx_isi (a : C) (ty : Ty) (ρ : En) (w : Str) : retOf (.isi a ty) ρ (.exc w) = .exc w ρ := rfl
theorem bor_isx (a : C) (t : Str) (cs : List Str) (ρ : En) (r : R W) : bor (.isx a t cs) ρ r = r.map W.toD := rfl
theorem lent_isx (a : C) (t : Str) (cs : List Str) (ρ : En) : lent (.isx a t cs) ρ = false := rfl
theorem retOf_isx (a : C) (t : Str) (cs : List Str) (ρ : En) (w : W) : retOf (.isx a t cs) ρ (.ok w) = .rt w := rfl
theorem bor_fnv (x : Str) (ρ : En) (r : R W) : bor (.fnv x) ρ r = r.map W.toD := rfl
theorem lent_fnv (x : Str) (ρ : En) : lent (.fnv x) ρ = false := rfl
theorem retOf_fnv (x : Str) (ρ : En) (w : W) : retOf (.fnv x) ρ (.ok w) = .rt w := rfl
theorem bor_callv (f : C) (fs : List Str) (es : Cs) (ρ : En) (r : R W) : bor (.callv f fs es) ρ r = r.map W.toD := rfl
theorem lent_callv (f : C) (fs : List Str) (es : Cs) (ρ : En) : lent (.callv f fs es) ρ = false := rfl
theorem retOf_callv (f : C) (fs : List Str) (es : Cs) (ρ : En) (w : W) : retOf (.callv f fs es) ρ (.ok w) = .rt w := rfl
theorem bor_compk (e : C) (g : Pt) (i : Nat) (t : Co) (own : List Nat) (ρ : En) (r : R W) : bor (.compk e g i t own) ρ r = r.map W.toD := rfl
theorem lent_compk (e : C) (g : Pt) (i : Nat) (t : Co) (own : List Nat) (ρ : En) : lent (.compk e g i t own) ρ = false := rfl
theorem retOf_compk (e : C) (g : Pt) (i : Nat) (t : Co) (own : List Nat) (ρ : En) (w : W) : retOf (.compk e g i t own) ρ (.ok w) = .rt w := rfl
theorem bor_compx (e : C) (g : Pt) (i : It) (t : Co) (own : List Nat) (ρ : En) (r : R W) : bor (.compx e g i t own) ρ r = r.map W.toD := rfl
theorem lent_compx (e : C) (g : Pt) (i : It) (t : Co) (own : List Nat) (ρ : En) : lent (.compx e g i t own) ρ = false := rfl
theorem retOf_compx (e : C) (g : Pt) (i : It) (t : Co) (own : List Nat) (ρ : En) (w : W) : retOf (.compx e g i t own) ρ (.ok w) = .rt w := rfl
theorem bor_fldM (i k : Nat) (ρ : En) (r : R W) : bor (.fld i k) ρ r = rdF ρ i k := rfl
theorem lent_fld (i k : Nat) (ρ : En) : lent (.fld i k) ρ = decide (k ≠ 0) := rfl
theorem retOf_fld (i k : Nat) (ρ : En) (w : W) : retOf (.fld i k) ρ (.ok w) = .rt w := rfl
theorem bor_compf (e : C) (g : Pt) (i : Nat) (t : Co) (own : List Nat) (ρ : En) (r : R W) : bor (.compf e g i t own) ρ r = r.map W.toD := rfl
theorem lent_compf (e : C) (g : Pt) (i : Nat) (t : Co) (own : List Nat) (ρ : En) : lent (.compf e g i t own) ρ = false := rfl
theorem retOf_compf (e : C) (g : Pt) (i : Nat) (t : Co) (own : List Nat) (ρ : En) (w : W) : retOf (.compf e g i t own) ρ (.ok w) = .rt w := rfl
theorem bor_rev (a : C) (ρ : En) (r : R W) : bor (.rev a) ρ r = r.map W.toD := rfl
theorem lent_rev (a : C) (ρ : En) : lent (.rev a) ρ = false := rfl
theorem retOf_rev (a : C) (ρ : En) (w : W) : retOf (.rev a) ρ (.ok w) = .rt w := rfl
theorem toD_d (d : D) : (W.d d).toD = d := rfl
theorem toD_fl (ds : List D) : (W.fl ds).toD = .lst ds := rfl
theorem ownOf_fl (ds : List D) : ownOf (.fl ds) = some (.ol ds) := rfl
theorem ownOf_fd (ds : List (Key × D)) : ownOf (.fd ds) = some (.od ds) := rfl
theorem boolW_eq (b : Bool) : boolW b = .d (.bl b) := rfl
theorem and_bl (a b : Bool) : (if a = true then R.ok (W.d (.bl b)) else .ok (W.d (.bl false))) = .ok (.d (.bl (a && b))) := by cases a <;> rfl
theorem or_bl (a b : Bool) : (if a = true then R.ok (W.d (.bl true)) else .ok (W.d (.bl b))) = .ok (.d (.bl (a || b))) := by cases a <;> rfl
theorem lentR_no (r : R W) : lentR false r = r := by cases r <;> rfl
theorem callEv_of (cl : Str → List D → R W) (f : Str) (d : D) (ds : List D) (b : Bool) : callEv cl f (d :: ds, b) = lentR b (cl f (d :: ds)) := rfl
end
section
variable {cl : Str → List D → R W} {gl : Str → Option D} {r : Ss} {ρ ρ1 : En} {Q : Fl → Prop}
theorem q_nx {s : S} (h : evS cl gl s ρ = .nx ρ1) (k : Q (evSs cl gl r ρ1)) : Q (evSs cl gl (.cons s r) ρ) := by
  rw [evSs, h]
  exact k
theorem q_exc {s : S} {c : Str} (h : evS cl gl s ρ = .exc c ρ1) (k : Q (.exc c ρ1)) : Q (evSs cl gl (.cons s r) ρ) := by
  rw [evSs, h]
  exact k
theorem q_ife {t : C} {a b : Ss} {c : Bool} (h : tru (evW cl gl t ρ) = .ok c) (k1 : c = true → Q (match evSs cl gl a ρ with
    | .nx ρ1 => evSs cl gl r ρ1
    | f => f)) (k2 : c = false → Q (match evSs cl gl b ρ with
    | .nx ρ1 => evSs cl gl r ρ1
    | f => f)) : Q (evSs cl gl (.cons (.ife t a b) r) ρ) := by
  rw [evSs, evS, h, outR_ok]
  cases c with
  | true => exact k1 rfl
  | false => exact k2 rfl
/-- a loop: what it is on its way, what is due behind it -/
theorem q_loop {α : Type} {g : Pt} {body : En → Fl} {enc : α → D} (l : List α) (I : List α → En → Prop) (h0 : I [] ρ)
    (hs : ∀ (pre : List α) (a : α) (post : List α), l = pre ++ a :: post → ∀ ρ, I pre ρ → ∃ ρ1, asgn g (enc a) ρ = some ρ1 ∧ (match body ρ1 with
      | .nx ρ2 => I (pre ++ [a]) ρ2
      | .ct ρ2 => I (pre ++ [a]) ρ2
      | .bk ρ2 => Q (.nx ρ2)
      | f => Q f)) (he : ∀ ρ, I l ρ → Q (.nx ρ)) : Q (forL g body (l.map enc) ρ) := by
  suffices H : ∀ (post pre : List α) (ρ : En), l = pre ++ post → I pre ρ → Q (forL g body (post.map enc) ρ) from H l [] ρ rfl h0
  intro post
  induction post with
  | nil =>
    intro pre ρ e i
    rw [List.append_nil] at e
    subst e
    exact he ρ i
  | cons a post ih =>
    intro pre ρ e i
    obtain ⟨ρ1, h1, h2⟩ := hs pre a post e ρ i
    rw [List.map_cons, forL, h1]
    dsimp only
    have ih2 := ih (pre ++ [a])
    cases hb : body ρ1 with
    | nx ρ2 =>
      rw [hb] at h2
      exact ih2 ρ2 (by rw [e]; simp) h2
    | ct ρ2 =>
      rw [hb] at h2
      exact ih2 ρ2 (by rw [e]; simp) h2
    | bk ρ2 => rw [hb] at h2; exact h2
    | rt w => rw [hb] at h2; exact h2
    | exc c ρ2 => rw [hb] at h2; exact h2
    | stuck => rw [hb] at h2; exact h2
/-- what a turn of a loop must bring -/
def Nxt (I B : En → Prop) (Q : Fl → Prop) : Fl → Prop
  | .nx ρ => I ρ
  | .ct ρ => I ρ
  | .bk ρ => B ρ
  | .rt w => Q (.rt w)
  | .exc c ρ => Q (.exc c ρ)
  | .stuck => Q .stuck
theorem nxt_nx (I B : En → Prop) (Q : Fl → Prop) (ρ : En) : Nxt I B Q (.nx ρ) = I ρ := rfl
theorem nxt_ct (I B : En → Prop) (Q : Fl → Prop) (ρ : En) : Nxt I B Q (.ct ρ) = I ρ := rfl
theorem nxt_bk (I B : En → Prop) (Q : Fl → Prop) (ρ : En) : Nxt I B Q (.bk ρ) = B ρ := rfl
theorem nxt_rt (I B : En → Prop) (Q : Fl → Prop) (w : W) : Nxt I B Q (.rt w) = Q (.rt w) := rfl
theorem nxt_exc (I B : En → Prop) (Q : Fl → Prop) (c : Str) (ρ : En) : Nxt I B Q (.exc c ρ) = Q (.exc c ρ) := rfl
def Ends (r : R W) (f : Fl) : Prop := outF f = r
theorem ends_def (r : R W) (f : Fl) : Ends r f = (outF f = r) := rfl
theorem of_ends {r : R W} {f : Fl} (h : Ends r f) : outF f = r := h
theorem q_for {α : Type} {g : Pt} {it : It} {b : Ss} {enc : α → D} (l : List α) (hit : evIt cl gl it ρ = .ok (l.map enc, false)) (I : List α → En → Prop) (h0 : I [] ρ)
    (hs : ∀ (pre : List α) (a : α) (post : List α), l = pre ++ a :: post → ∀ ρ, I pre ρ → ∃ ρ1, asgn g (enc a) ρ = some ρ1 ∧ Nxt (I (pre ++ [a])) (fun ρ2 => Q (evSs cl gl r ρ2)) Q (evSs cl gl b ρ1))
    (he : ∀ ρ, I l ρ → Q (evSs cl gl r ρ)) : Q (evSs cl gl (.cons (.for g it b) r) ρ) := by
  rw [evSs, evS, hit, outR_ok]
  show Q (match (if false = true then Fl.stuck else forL g (fun ρ1 => evSs cl gl b ρ1) (l.map enc) ρ) with
    | .nx ρ1 => evSs cl gl r ρ1
    | f => f)
  rw [if_neg Bool.false_ne_true]
  refine q_loop (Q := fun f => Q (match f with
    | .nx ρ1 => evSs cl gl r ρ1
    | f => f)) l I h0 (fun pre a post e ρ i => ?_) he
  obtain ⟨ρ1, h1, h2⟩ := hs pre a post e ρ i
  refine ⟨ρ1, h1, ?_⟩
  cases hb : evSs cl gl b ρ1 <;> rw [hb] at h2 <;> exact h2
end
theorem compL_ok {α : Type} {g : Pt} {t : En → R Bool} {el : En → R D} {ρ : En} (p : α → Bool) (f : α → D) (enc : α → D) : ∀ (l : List α), (∀ a ∈ l, ∃ ρ1, asgn g (enc a) ρ = some ρ1 ∧ t ρ1 = .ok (p a) ∧ (p a = true → el ρ1 = .ok (f a))) →
    compL g t el ρ (l.map enc) = .ok ((l.filter p).map f)
  | [], _ => rfl
  | a :: r, h => by
    obtain ⟨ρ1, h1, h2, h3⟩ := h a List.mem_cons_self
    have ih := compL_ok p f enc r fun b hb => h b (List.mem_cons_of_mem _ hb)
    rw [List.map_cons, compL, h1]
    cases hp : p a with
    | true =>
      have h4 := h3 hp
      simp only [h2, hp, h4, ih, List.filter_cons, if_true, List.map_cons]
    | false =>
      simp only [h2, hp, ih, List.filter_cons, Bool.false_eq_true, if_false]
theorem ev_comp {α : Type} {cl : Str → List D → R W} {gl : Str → Option D} {elt : C} {g : Pt} {it : It} {t : Co} {own : List Nat} {ρ : En} {b : Bool} (p : α → Bool) (f : α → D) (enc : α → D) (l : List α)
    (hit : evIt cl gl it ρ = .ok (l.map enc, b)) (hl : l.length ≤ SIZE)
    (h : ∀ a ∈ l, ∃ ρ1, asgn g (enc a) (wipeE ρ own) = some ρ1 ∧ evT cl gl t ρ1 = .ok (p a) ∧ (p a = true → (evW cl gl elt ρ1).map W.toD = .ok (f a))) :
    evW cl gl (.comp elt g it t own) ρ = .ok (.fl ((l.filter p).map f)) := by
  rw [evW, hit, bind_ok, compL_ok p f enc l h, bind_ok, sizeOk, if_pos]
  · rfl
  · rw [List.length_map]
    exact Nat.le_trans (List.length_filter_le p l) hl
theorem ev_compA {α : Type} {cl : Str → List D → R W} {gl : Str → Option D} {elt : C} {g : Pt} {it : It} {own : List Nat} {ρ : En} {b : Bool} (f : α → D) (enc : α → D) (l : List α)
    (hit : evIt cl gl it ρ = .ok (l.map enc, b)) (hl : l.length ≤ SIZE)
    (h : ∀ a ∈ l, ∃ ρ1, asgn g (enc a) (wipeE ρ own) = some ρ1 ∧ (evW cl gl elt ρ1).map W.toD = .ok (f a)) :
    evW cl gl (.comp elt g it .no own) ρ = .ok (.fl (l.map f)) := by
  have := ev_comp (t := .no) (elt := elt) (own := own) (fun _ => true) f enc l hit hl fun a ha => by
    obtain ⟨ρ1, h1, h2⟩ := h a ha
    exact ⟨ρ1, h1, by rw [evT], fun _ => h2⟩
  rw [this, List.filter_eq_self.mpr fun _ _ => rfl]
structure Good {α : Type} [DecidableEq α] (n : Nat) (f : α → D) : Prop where
  pl : ∀ a, D.pl n (f a) = true
  eq : ∀ a b, eqb (f a) (f b) = decide (a = b)
theorem pl_succ : ∀ (n : Nat) (d : D), D.pl n d = true → D.pl (n + 1) d = true
  | n, .non, _ => by unfold D.pl; rfl
  | n, .bl _, _ => by unfold D.pl; rfl
  | n, .int _, _ => by unfold D.pl; rfl
  | n, .str _, _ => by unfold D.pl; rfl
  | 0, .tup ds, h => by unfold D.pl at h; cases h
  | n + 1, .tup ds, h => by
    unfold D.pl at h ⊢
    exact go n ds h
  | 0, .lst ds, h => by unfold D.pl at h; cases h
  | n + 1, .lst ds, h => by
    unfold D.pl at h ⊢
    exact go n ds h
  | n, .dic _, h => by cases n <;> (unfold D.pl at h; cases h)
  | n, .exc _, h => by cases n <;> (unfold D.pl at h; cases h)
  | n, .fn _, h => by cases n <;> (unfold D.pl at h; cases h)
where go : ∀ (n : Nat) (ds : List D), D.pls n ds = true → D.pls (n + 1) ds = true
  | n, [], _ => by unfold D.pls; rfl
  | n, d :: r, h => by
    unfold D.pls at h ⊢
    rw [Bool.and_eq_true] at h ⊢
    exact ⟨pl_succ n d h.1, go n r h.2⟩
theorem pl_le {n m : Nat} {d : D} (h : D.pl n d = true) (l : n ≤ m) : D.pl m d = true := by
  induction l with
  | refl => exact h
  | step _ ih => exact pl_succ _ _ ih
theorem pls_map {α : Type} {n : Nat} {f : α → D} : ∀ {l : List α}, (∀ a ∈ l, D.pl n (f a) = true) → D.pls n (l.map f) = true
  | [], _ => by rw [List.map_nil, D.pls]
  | a :: r, h => by
    rw [List.map_cons, D.pls, h a List.mem_cons_self, pls_map fun b hb => h b (List.mem_cons_of_mem _ hb)]
    rfl
def eqbs (ds es : List D) : Bool := PyData.eqvAll (D.toPs ds) (D.toPs es)
theorem eqbs_cons (d e : D) (ds es : List D) : eqbs (d :: ds) (e :: es) = (eqb d e && eqbs ds es) := by
  unfold eqbs eqb
  rw [D.toPs, D.toPs, PyData.eqvAll]
theorem eqb_lst (ds es : List D) : eqb (.lst ds) (.lst es) = eqbs ds es := by
  unfold eqb eqbs
  rw [D.toP, D.toP, PyData.eqv]
section
variable {α β γ : Type} [DecidableEq α] [DecidableEq β] [DecidableEq γ] {n : Nat} {f : α → D} {g : β → D} {k : γ → D}
theorem eqbs_map (hf : ∀ a b, eqb (f a) (f b) = decide (a = b)) : ∀ (l m : List α), eqbs (l.map f) (m.map f) = decide (l = m)
  | [], [] => by simp [eqbs, D.toPs, PyData.eqvAll]
  | [], b :: m => by simp [eqbs, D.toPs, PyData.eqvAll]
  | a :: l, [] => by simp [eqbs, D.toPs, PyData.eqvAll]
  | a :: l, b :: m => by
    rw [List.map_cons, List.map_cons, eqbs_cons, hf, eqbs_map hf l m, ← Bool.decide_and]
    simp only [List.cons.injEq]
theorem good_lst (h : Good n f) : Good (n + 1) (fun l : List α => D.lst (l.map f)) :=
  ⟨fun l => by rw [D.pl]; exact pls_map fun a _ => h.pl a, fun l m => by rw [eqb_lst]; exact eqbs_map h.eq l m⟩
theorem beq_dec {α : Type} [BEq α] [LawfulBEq α] [DecidableEq α] (a b : α) : (a == b) = decide (a = b) := by
  rw [Bool.eq_iff_iff, beq_iff_eq, decide_eq_true_iff]
theorem good_int : Good 0 D.int := ⟨fun _ => by rw [D.pl], fun a b => by simp [eqb, D.toP, PyData.eqv, beq_dec]⟩
theorem good_str : Good 0 D.str := ⟨fun _ => by rw [D.pl], fun a b => by simp [eqb, D.toP, PyData.eqv, beq_dec]⟩
theorem good_bl : Good 0 D.bl := ⟨fun _ => by rw [D.pl], fun a b => by simp [eqb, D.toP, PyData.eqv, Bool.beq_eq_decide_eq]⟩
theorem Good.eqR (h : Good n f) (a b : α) (l : n ≤ NEST := by decide) : eqR (f a) (f b) = .ok (decide (a = b)) := by
  unfold G81.eqR
  rw [pl_le (h.pl a) l, pl_le (h.pl b) l, h.eq]
  rfl
theorem Good.inR (h : Good n f) (a : α) (m : List α) (l : n ≤ NEST := by decide) : inR (f a) (m.map f) = .ok (decide (a ∈ m)) := by
  unfold G81.inR
  rw [pl_le (h.pl a) l, pls_map fun b _ => pl_le (h.pl b) l]
  simp only [Bool.and_self, if_true, R.ok.injEq]
  rw [Bool.eq_iff_iff, List.any_map, List.any_eq_true, decide_eq_true_iff]
  constructor
  · rintro ⟨x, h1, h2⟩
    have h3 : eqb (f x) (f a) = true := h2
    rw [h.eq] at h3
    rw [← of_decide_eq_true h3]
    exact h1
  · intro h1
    exact ⟨a, h1, by show eqb (f a) (f a) = true; rw [h.eq]; simp⟩
end
theorem cmp_lt (i j : Int) : cmpEv .Lt (.int i) (.int j) = .ok (decide (i < j)) := rfl
theorem cmp_le (i j : Int) : cmpEv .LtE (.int i) (.int j) = .ok (decide (i ≤ j)) := rfl
theorem cmp_gt (i j : Int) : cmpEv .Gt (.int i) (.int j) = .ok (decide (j < i)) := rfl
theorem cmp_ge (i j : Int) : cmpEv .GtE (.int i) (.int j) = .ok (decide (j ≤ i)) := rfl
theorem cmp_eq (d e : D) : cmpEv .Eq d e = eqR d e := rfl
theorem cmp_ne (d e : D) : cmpEv .NotEq d e = notR (eqR d e) := rfl
theorem cmp_in (d : D) (ds : List D) : cmpEv .In d (.lst ds) = inR d ds := rfl
theorem cmp_inT (d : D) (ds : List D) : cmpEv .In d (.tup ds) = inR d ds := rfl
theorem cmp_nin (d : D) (ds : List D) : cmpEv .NotIn d (.lst ds) = notR (inR d ds) := rfl
theorem cmp_ninT (d : D) (ds : List D) : cmpEv .NotIn d (.tup ds) = notR (inR d ds) := rfl
theorem bin_add (i j : Int) : binEv .Add (.int i) (.int j) = .ok (.d (.int (i + j))) := rfl
theorem bin_sub (i j : Int) : binEv .Sub (.int i) (.int j) = .ok (.d (.int (i - j))) := rfl
theorem bin_mul (i j : Int) (h : (-(2 ^ 64) < i ∧ i < 2 ^ 64) ∨ (-(2 ^ 64) < j ∧ j < 2 ^ 64)) : binEv .Mult (.int i) (.int j) = .ok (.d (.int (i * j))) := by
  simp only [binEv, mulEv]
  exact if_pos h
theorem bin_fdiv (i j : Int) (h : 0 < j ∧ j < 1073741824) : binEv .FloorDiv (.int i) (.int j) = .ok (.d (.int (i / j))) := by
  simp only [binEv, fdivEv]
  exact if_pos h
theorem bin_mod (i j : Int) (h : 0 < j) : binEv .Mod (.int i) (.int j) = .ok (.d (.int (i % j))) := by
  simp only [binEv, modEv]
  exact if_pos h
theorem eqR_int (i j : Int) : eqR (.int i) (.int j) = .ok (decide (i = j)) := good_int.eqR i j
theorem eqR_str (i j : Str) : eqR (.str i) (.str j) = .ok (decide (i = j)) := good_str.eqR i j
theorem eqR_bl (i j : Bool) : eqR (.bl i) (.bl j) = .ok (decide (i = j)) := good_bl.eqR i j
theorem eqR_ints (i j : List Int) : eqR (.lst (i.map .int)) (.lst (j.map .int)) = .ok (decide (i = j)) := (good_lst good_int).eqR i j
theorem eqR_strs (i j : List Str) : eqR (.lst (i.map .str)) (.lst (j.map .str)) = .ok (decide (i = j)) := (good_lst good_str).eqR i j
theorem seqs_tup (ds : List D) : seqs? (.tup ds) = some ds := rfl
theorem seqs_lst (ds : List D) : seqs? (.lst ds) = some ds := rfl
theorem rng_ok {i j : Int} (h1 : -1000000 ≤ i) (h2 : j ≤ 1000000) (h3 : i ≤ 1000000) (h4 : -1000000 ≤ j) : rngOk i j = true := by
  simp [rngOk, h1, h2, h3, h4]

theorem ints_map : ∀ l : List Int, ints? (l.map .int) = some l
  | [] => rfl
  | i :: r => by rw [List.map_cons, ints?, ints_map r]; rfl
theorem bls_map : ∀ l : List Bool, bls? (l.map .bl) = some l
  | [] => rfl
  | i :: r => by rw [List.map_cons, bls?, bls_map r]; rfl
theorem intsTo_eq (i : Int) : ∀ n : Nat, intsTo i n = ((List.range n).map fun k : Nat => i + (k : Int)).map D.int
  | 0 => rfl
  | n + 1 => by
    rw [intsTo, intsTo_eq (i + 1) n, List.range_succ_eq_map]
    simp only [List.map_map, List.map_cons, Int.add_zero, List.cons.injEq, D.int.injEq]
    refine ⟨by simp, ?_⟩
    apply List.map_congr_left
    intro k _
    simp only [Function.comp_apply, D.int.injEq, Nat.succ_eq_add_one]
    push_cast
    omega
theorem atI_nn {α : Type} (xs : List α) {i : Int} (h : 0 ≤ i) : atI xs i = xs[i.toNat]? := by
  unfold atI ixN
  rw [if_pos h]
  by_cases h1 : i < xs.length
  · rw [if_pos h1]; rfl
  · rw [if_neg h1]
    symm
    exact List.getElem?_eq_none (by omega)
theorem atI_0 {α : Type} (a : α) (r : List α) : atI (a :: r) 0 = some a := by rw [atI_nn _ (by omega)]; rfl
theorem atI_1 {α : Type} (a b : α) (r : List α) : atI (a :: b :: r) 1 = some b := by rw [atI_nn _ (by omega)]; rfl
theorem atI_2 {α : Type} (a b c : α) (r : List α) : atI (a :: b :: c :: r) 2 = some c := by rw [atI_nn _ (by omega)]; rfl
theorem atI_3 {α : Type} (a b c d : α) (r : List α) : atI (a :: b :: c :: d :: r) 3 = some d := by rw [atI_nn _ (by omega)]; rfl
theorem ix_tup (ds : List D) (i : Int) : ixEv (.tup ds) (.int i) = .of (atI ds i) := rfl
theorem ix_lst (ds : List D) (i : Int) : ixEv (.lst ds) (.int i) = .of (atI ds i) := rfl
theorem len_lst (ds : List D) : lenEv [.lst ds] = .ok (.d (.int ds.length)) := rfl
theorem len_tup (ds : List D) : lenEv [.tup ds] = .ok (.d (.int ds.length)) := rfl
theorem sum_ints (l : List Int) : sumEv [.lst (l.map .int)] = .ok (.d (.int l.sum)) := by rw [sumEv, ints_map]; rfl
theorem maxd_ints (l : List Int) (z : Int) : maxdEv [.lst (l.map .int), .int z] = .ok (.d (.int ((maxI l).getD z))) := by rw [maxdEv, ints_map]; rfl
theorem any_bls (l : List Bool) : anyEv [.lst (l.map .bl)] = .ok (.d (.bl (l.any id))) := by rw [anyEv, bls_map]; rfl
theorem all_bls (l : List Bool) : allEv [.lst (l.map .bl)] = .ok (.d (.bl (l.all id))) := by rw [allEv, bls_map]; rfl
theorem lent_var (i : Nat) (ρ : En) : lent (.var i) ρ = match ρ.getD i .no with
    | .ol _ => true
    | .od _ => true
    | _ => false := rfl
theorem retOf_var (i : Nat) (ρ : En) (r : R W) : retOf (.var i) ρ r = match ρ.getD i .no with
    | .v d => .rt (.d d)
    | .ol ds => .rt (.fl ds)
    | .od kvs => .rt (.fd kvs)
    | _ => .stuck := rfl
/-- a meeting -/
structure M where
  n : Str
  b : Int
  e : Int
  deriving DecidableEq
def mD (m : M) : D := .tup [.str m.n, .int m.b, .int m.e]
abbrev shD (s : List M) : D := .tup (s.map mD)
theorem ix_mD0 (m : M) : ixEv (mD m) (.int 0) = .ok (.str m.n) := rfl
theorem ix_mD1 (m : M) : ixEv (mD m) (.int 1) = .ok (.int m.b) := rfl
theorem ix_mD2 (m : M) : ixEv (mD m) (.int 2) = .ok (.int m.e) := rfl
theorem max_ii (i j : Int) : maxEv [.int i, .int j] = .ok (.d (.int (max i j))) := by
  simp only [maxEv]
  congr 3
  split <;> omega
theorem min_ii (i j : Int) : minEv [.int i, .int j] = .ok (.d (.int (min i j))) := by
  simp only [minEv]
  congr 3
  split <;> omega
def pD (p : Int × Int) : D := .tup [.int p.1, .int p.2]
theorem ix_pD0 (p : Int × Int) : ixEv (pD p) (.int 0) = .ok (.int p.1) := rfl
theorem ix_pD1 (p : Int × Int) : ixEv (pD p) (.int 1) = .ok (.int p.2) := rfl
theorem cmp_is (d e : D) : cmpEv .Is d e = isR d e := rfl
theorem cmp_isn (d e : D) : cmpEv .IsNot d e = notR (isR d e) := rfl
theorem isR_non : isR .non .non = .ok true := rfl
theorem isR_int (i : Int) : isR (.int i) .non = .ok false := rfl
theorem isR_str (i : Str) : isR (.str i) .non = .ok false := rfl
theorem isR_tup (ds : List D) : isR (.tup ds) .non = .ok false := rfl
theorem isR_lst (ds : List D) : isR (.lst ds) .non = .ok false := rfl
theorem isR_pD (p : Int × Int) : isR (pD p) .non = .ok false := rfl
/-- the rules of the evaluator, all in one -/
def EVc := (And.intro (And.intro (And.intro @Bool.or_false (And.intro @Bool.false_or @Bool.or_self)) (And.intro @Bool.or_true (And.intro @Bool.true_or @Bool.and_true))) (And.intro (And.intro @Bool.true_and (And.intro @Bool.and_false @Bool.false_and)) (And.intro @Bool.not_true (And.intro @Bool.not_false @Bool.false_eq_true))))
def EVb := (And.intro (And.intro (And.intro (And.intro (And.intro (And.intro (And.intro @evS.eq_1 (And.intro @evS.eq_2 @evS.eq_3)) (And.intro (And.intro @evS.eq_4 @evS.eq_5) (And.intro @evS.eq_6 @evS.eq_7))) (And.intro (And.intro @evS.eq_8 (And.intro @evS.eq_9 @evS.eq_10)) (And.intro (And.intro @evS.eq_13 @evS.eq_14) (And.intro @evS.eq_15 @evS.eq_16)))) (And.intro (And.intro (And.intro @evS.eq_17 (And.intro @evS.eq_18 @evS.eq_19)) (And.intro (And.intro @evS.eq_20 @evS.eq_21) (And.intro @evS.eq_22 @evW.eq_1))) (And.intro (And.intro (And.intro @evW.eq_2 @evW.eq_3) (And.intro @evW.eq_4 @evW.eq_5)) (And.intro (And.intro @evW.eq_6 @evW.eq_7) (And.intro @evW.eq_8 @evW.eq_9))))) (And.intro (And.intro (And.intro (And.intro @evW.eq_10 (And.intro @evW.eq_11 @evW.eq_12)) (And.intro (And.intro @evW.eq_13 @evW.eq_14) (And.intro @evW.eq_15 @evW.eq_16))) (And.intro (And.intro @evW.eq_18 (And.intro @evW.eq_19 @evW.eq_20)) (And.intro (And.intro @evW.eq_21 @evW.eq_22) (And.intro @evW.eq_23 @evW.eq_24)))) (And.intro (And.intro (And.intro @evW.eq_25 (And.intro @evW.eq_26 @evW.eq_29)) (And.intro (And.intro @evW.eq_30 @bor_fldM) (And.intro @lent_fld @retOf_fld))) (And.intro (And.intro (And.intro @bor_compf @lent_compf) (And.intro @retOf_compf @bor_compk)) (And.intro (And.intro @lent_compk @retOf_compk) (And.intro @bor_compx @lent_compx)))))) (And.intro (And.intro (And.intro (And.intro (And.intro @retOf_compx (And.intro @bor_rev @lent_rev)) (And.intro (And.intro @retOf_rev @bor_fnv) (And.intro @lent_fnv @retOf_fnv))) (And.intro (And.intro @bor_callv (And.intro @lent_callv @retOf_callv)) (And.intro (And.intro @bor_isx @lent_isx) (And.intro @retOf_isx @bor_chain3)))) (And.intro (And.intro (And.intro @lent_chain3 (And.intro @retOf_chain3 @seqs_tup)) (And.intro (And.intro @seqs_lst @bind_ok) (And.intro @rmap_ok @of_some))) (And.intro (And.intro (And.intro @outR_ok @outO_some) (And.intro @tru_bl @okInt_ok)) (And.intro (And.intro @outF_rt @outF_nx) (And.intro @notR_ok @asgn_one))))) (And.intro (And.intro (And.intro (And.intro @asgn_tup (And.intro @asgs_nil @asgs_cons)) (And.intro (And.intro @bo_var @lent_var) (And.intro @retOf_var @bor_k))) (And.intro (And.intro @lent_k (And.intro @retOf_k @retOfx_k)) (And.intro (And.intro @bor_glob @lent_glob) (And.intro @retOf_glob @retOfx_glob)))) (And.intro (And.intro (And.intro @bor_tup (And.intro @lent_tup @retOf_tup)) (And.intro (And.intro @retOfx_tup @bor_lst) (And.intro @lent_lst @retOf_lst))) (And.intro (And.intro (And.intro @retOfx_lst @bor_dsp) (And.intro @lent_dsp @retOf_dsp)) (And.intro (And.intro @retOfx_dsp @bor_bin) (And.intro @lent_bin @retOf_bin))))))) (And.intro (And.intro (And.intro (And.intro (And.intro (And.intro @retOfx_bin (And.intro @bor_neg @lent_neg)) (And.intro (And.intro @retOf_neg @retOfx_neg) (And.intro @bor_not @lent_not))) (And.intro (And.intro @retOf_not (And.intro @retOfx_not @bor_and)) (And.intro (And.intro @lent_and @retOf_and) (And.intro @retOfx_and @bor_or)))) (And.intro (And.intro (And.intro @lent_or (And.intro @retOf_or @retOfx_or)) (And.intro (And.intro @bor_cmp @lent_cmp) (And.intro @retOf_cmp @retOfx_cmp))) (And.intro (And.intro (And.intro @bor_chain @lent_chain) (And.intro @retOf_chain @retOfx_chain)) (And.intro (And.intro @bor_ife @lent_ife) (And.intro @retOf_ife @retOfx_ife))))) (And.intro (And.intro (And.intro (And.intro @bor_ix (And.intro @lent_ix @retOf_ix)) (And.intro (And.intro @retOfx_ix @bor_sl) (And.intro @lent_sl @retOf_sl))) (And.intro (And.intro @retOfx_sl (And.intro @bor_comp @lent_comp)) (And.intro (And.intro @retOf_comp @retOfx_comp) (And.intro @bor_call @lent_call)))) (And.intro (And.intro (And.intro @retOf_call (And.intro @retOfx_call @bor_bi)) (And.intro (And.intro @lent_bi @retOf_bi) (And.intro @retOfx_bi @bor_me))) (And.intro (And.intro (And.intro @lent_me @retOf_me) (And.intro @retOfx_me @bor_isi)) (And.intro (And.intro @lent_isi @retOf_isi) (And.intro @retOfx_isi @toD_d)))))) (And.intro (And.intro (And.intro (And.intro (And.intro @toD_fl (And.intro @ownOf_fl @ownOf_fd)) (And.intro (And.intro @callEv_of @lentR_no) (And.intro @cmp_lt @cmp_le))) (And.intro (And.intro @cmp_gt (And.intro @cmp_ge @cmp_eq)) (And.intro (And.intro @cmp_ne @cmp_in) (And.intro @cmp_inT @cmp_nin)))) (And.intro (And.intro (And.intro @cmp_ninT (And.intro @bin_add @bin_sub)) (And.intro (And.intro @cmp_is @cmp_isn) (And.intro @isR_non @isR_int))) (And.intro (And.intro (And.intro @isR_tup @isR_pD) (And.intro @isR_lst @isR_str)) (And.intro (And.intro @max_ii @min_ii) (And.intro @ix_pD0 @ix_pD1))))) (And.intro (And.intro (And.intro (And.intro @ix_mD0 (And.intro @ix_mD1 @ix_mD2)) (And.intro (And.intro @ix_tup @ix_lst) (And.intro @atI_0 @atI_1))) (And.intro (And.intro @atI_2 (And.intro @atI_3 @and_bl)) (And.intro (And.intro @or_bl @len_lst) (And.intro @len_tup @sum_ints)))) (And.intro (And.intro (And.intro @maxd_ints (And.intro @any_bls @all_bls)) (And.intro (And.intro @eqR_int @eqR_str) (And.intro @eqR_bl @eqR_ints))) (And.intro (And.intro (And.intro @eqR_strs @boolW_eq) (And.intro @nxt_nx @nxt_ct)) (And.intro (And.intro @nxt_bk @nxt_rt) (And.intro @nxt_exc @ends_def))))))))
end G81
end
section
set_option linter.all false
set_option maxHeartbeats 2000000
namespace G81
open PySem PySem.Spec L2
section
variable {Γ : Str → Option FD} {gl : Str → Option D}
theorem w_NoMeeting (h : Γ "_law_word" = some fd__law_word) (n : Nat) : run Γ gl (n + 1) "_law_word" [.exc "NoMeeting"] = .ok (.d (.str "no meeting")) := by
  rw [go__law_word h]
  rfl
end
end G81
end
section
set_option linter.all false
set_option maxHeartbeats 1000000
namespace G81
open PySem PySem.Spec L2
section
variable {Γ : Str → Option FD} {gl : Str → Option D}
def ov (x y : M) : Bool := decide (x.b < y.e) && decide (y.b < x.e)
abbrev scr (ns : List Int) : D := .lst (ns.map .int)
def cell (ns : List Int) (k : Int) : Int := if k < ns.length then ns.getD k.toNat 0 else if ns = [] then 0 else ns.getD (k % ns.length).toNat 0 * 31 + k
def pk (ns : List Int) (k m : Int) : Int := ((cell ns k + 6151 * (k + 1)) * 40692 % 2147483399 * ((cell ns k + 6151 * (k + 1)) * 40692 % 2147483399) + (cell ns k + 6151 * (k + 1)) * 40692 % 2147483399 / 31) % 2147483629 % m
theorem at_ints {ns : List Int} {k : Int} (h0 : 0 ≤ k) (h1 : k < ns.length) : atI (ns.map D.int) k = some (.int (ns.getD k.toNat 0)) := by
  rw [atI_nn _ h0, List.getElem?_map, List.getElem?_eq_getElem (by omega), List.getD_eq_getElem?_getD, List.getElem?_eq_getElem (by omega)]
  rfl
theorem r_cell (h : Γ "_law_cell" = some fd__law_cell) (n : Nat) (ns : List Int) {k : Int} (h0 : 0 ≤ k) : run Γ gl (n + 1) "_law_cell" [scr ns, .int k] = .ok (.d (.int (cell ns k))) := by
  rw [go__law_cell h]
  refine of_ends ?_
  unfold c__law_cell
  refine q_ife (c := decide (k < ns.length)) (by simp only [EVb, EVc, evW.eq_27, evW.eq_28, compfEv, rdF, compkEv, popdOwn, evVs, evBs, evT, evO, evIt, rdB, rdV, List.getD_cons_zero, List.getD_cons_succ, List.set_cons_zero, List.set_cons_succ, biEv, intEv, absEv, tupleEv, eq_self, decide_true, decide_false, if_true, if_false, appOwn, extOwn, List.length_map]) (fun e => ?_) fun e => ?_
  · have e1 := of_decide_eq_true e
    simp only [evSs, EVb, EVc, evW.eq_27, evW.eq_28, compfEv, rdF, compkEv, popdOwn, evVs, evBs, evT, evO, evIt, rdB, rdV, List.getD_cons_zero, List.getD_cons_succ, List.set_cons_zero, List.set_cons_succ, biEv, intEv, absEv, tupleEv, eq_self, decide_true, decide_false, if_true, if_false, appOwn, extOwn, at_ints h0 e1, cell, e1, if_true]
  · have e1 := of_decide_eq_false e
    rw [evSs.eq_1]
    dsimp only
    refine q_ife (c := decide (ns = [])) (by
      have := eqR_ints ns []
      simp only [List.map_nil] at this
      simp only [EVb, EVc, evW.eq_27, evW.eq_28, compfEv, rdF, compkEv, popdOwn, evVs, evBs, evT, evO, evIt, rdB, rdV, List.getD_cons_zero, List.getD_cons_succ, List.set_cons_zero, List.set_cons_succ, biEv, intEv, absEv, tupleEv, eq_self, decide_true, decide_false, if_true, if_false, appOwn, extOwn, this]) (fun e => ?_) fun e => ?_
    · have e2 := of_decide_eq_true e
      simp only [evSs, EVb, EVc, evW.eq_27, evW.eq_28, compfEv, rdF, compkEv, popdOwn, evVs, evBs, evT, evO, evIt, rdB, rdV, List.getD_cons_zero, List.getD_cons_succ, List.set_cons_zero, List.set_cons_succ, biEv, intEv, absEv, tupleEv, eq_self, decide_true, decide_false, if_true, if_false, appOwn, extOwn]
      rw [cell, if_neg e1, if_pos e2]
    · have e2 := of_decide_eq_false e
      have l : 0 < ns.length := by cases ns with
        | nil => exact absurd rfl e2
        | cons _ _ => exact Nat.succ_pos _
      have a1 := Int.emod_nonneg k (b := (ns.length : Int)) (by omega)
      have a2 := Int.emod_lt_of_pos k (b := (ns.length : Int)) (by omega)
      simp only [evSs, EVb, EVc, evW.eq_27, evW.eq_28, compfEv, rdF, compkEv, popdOwn, evVs, evBs, evT, evO, evIt, rdB, rdV, List.getD_cons_zero, List.getD_cons_succ, List.set_cons_zero, List.set_cons_succ, biEv, intEv, absEv, tupleEv, eq_self, decide_true, decide_false, if_true, if_false, appOwn, extOwn, cell, e1, e2, if_false, List.length_map, bin_mod _ _ (show (0 : Int) < (ns.length : Int) by omega), at_ints a1 a2, bin_mul _ 31 (.inr (by decide))]
theorem r_pick (h1 : Γ "_law_cell" = some fd__law_cell) (h2 : Γ "_law_pick" = some fd__law_pick) (n : Nat) (ns : List Int) {k m : Int} (h0 : 0 ≤ k) (hm : 0 < m) : run Γ gl (n + 2) "_law_pick" [scr ns, .int k, .int m] = .ok (.d (.int (pk ns k m))) := by
  rw [go__law_pick h2]
  have d0 := Int.emod_nonneg ((cell ns k + 6151 * (k + 1)) * 40692) (b := 2147483399) (by omega)
  have d1 := Int.emod_lt_of_pos ((cell ns k + 6151 * (k + 1)) * 40692) (b := 2147483399) (by omega)
  simp only [c__law_pick, evSs, EVb, EVc, evW.eq_27, evW.eq_28, compfEv, rdF, compkEv, popdOwn, evVs, evBs, evT, evO, evIt, rdB, rdV, List.getD_cons_zero, List.getD_cons_succ, List.set_cons_zero, List.set_cons_succ, biEv, intEv, absEv, tupleEv, eq_self, decide_true, decide_false, if_true, if_false, appOwn, extOwn, r_cell h1 n ns h0, bin_mul 6151 _ (.inl (by decide)), bin_mul _ 40692 (.inr (by decide)), bin_mod _ 2147483399 (by decide)]
  simp only [evSs, EVb, EVc, evW.eq_27, evW.eq_28, compfEv, rdF, compkEv, popdOwn, evVs, evBs, evT, evO, evIt, rdB, rdV, List.getD_cons_zero, List.getD_cons_succ, List.set_cons_zero, List.set_cons_succ, biEv, intEv, absEv, tupleEv, eq_self, decide_true, decide_false, if_true, if_false, appOwn, extOwn, bin_mul _ _ (.inl (show -(2 ^ 64) < (cell ns k + 6151 * (k + 1)) * 40692 % 2147483399 ∧ (cell ns k + 6151 * (k + 1)) * 40692 % 2147483399 < 2 ^ 64 by omega)), bin_fdiv _ 31 (by decide), bin_mod _ 2147483629 (by decide), bin_mod _ _ hm, pk]
theorem pk_nn (ns : List Int) (k : Int) {m : Int} (h : 0 < m) : 0 ≤ pk ns k m := Int.emod_nonneg _ (by omega)
theorem pk_lt (ns : List Int) (k : Int) {m : Int} (h : 0 < m) : pk ns k m < m := Int.emod_lt_of_pos _ h
theorem at_map {α : Type} {f : α → D} {l : List α} {i : Int} (h0 : 0 ≤ i) (h1 : i < l.length) (d : α) : atI (l.map f) i = some (f (l.getD i.toNat d)) := by
  rw [atI_nn _ h0, List.getElem?_map, List.getElem?_eq_getElem (by omega), List.getD_eq_getElem?_getD, List.getElem?_eq_getElem (by omega)]
  rfl
def names10 : List Str := ["a", "b", "cc", "d", "e", "fx", "g", "h", "i", "jjjj"]
def spanA (ns : List Int) (a : Int) : Int := [12, 30, 30, 200].getD (pk ns a 4).toNat 0
def sizeA (ns : List Int) (a k : Int) : Int := 1 + pk ns (a + 11 + 3 * k) ([3, 8, spanA ns a].getD (pk ns (a + 12 + 3 * k) 3).toNat 0)
def begA (ns : List Int) (a k : Int) : Int := pk ns (a + 10 + 3 * k) (spanA ns a)
def mkA (ns : List Int) (a : Int) (k : Nat) : M := ⟨names10.getD k "", begA ns a k, begA ns a k + sizeA ns a k⟩
def sheetA (ns : List Int) (a most : Int) : List M := (List.range (pk ns (a + 1) (most + 1)).toNat).map (mkA ns a)
theorem span_ge (ns : List Int) (a : Int) : 12 ≤ spanA ns a ∧ spanA ns a ≤ 200 := by
  have h0 := pk_nn ns a (m := 4) (by decide)
  have h1 := pk_lt ns a (m := 4) (by decide)
  unfold spanA
  obtain ⟨j, hj⟩ : ∃ j : Nat, (pk ns a 4).toNat = j := ⟨_, rfl⟩
  rw [hj]
  have : j < 4 := by omega
  match j, this with
  | 0, _ => decide
  | 1, _ => decide
  | 2, _ => decide
  | 3, _ => decide
theorem big_ge (ns : List Int) (a : Int) (j : Nat) (hj : j < 3) : 3 ≤ [3, 8, spanA ns a].getD j 0 ∧ [3, 8, spanA ns a].getD j 0 ≤ 200 := by
  have := span_ge ns a
  match j, hj with
  | 0, _ => exact ⟨by show (3 : Int) ≤ 3; decide, by show (3 : Int) ≤ 200; decide⟩
  | 1, _ => exact ⟨by show (3 : Int) ≤ 8; decide, by show (8 : Int) ≤ 200; decide⟩
  | 2, _ => exact ⟨by show 3 ≤ spanA ns a; omega, this.2⟩
theorem r_sheet (h1 : Γ "_law_cell" = some fd__law_cell) (h2 : Γ "_law_pick" = some fd__law_pick) (h3 : Γ "_law_sheet" = some fd__law_sheet) (n : Nat) (ns : List Int) {a most : Int} (h0 : 0 ≤ a) (hm0 : 0 ≤ most) (hm : most ≤ 10) :
    run Γ gl (n + 3) "_law_sheet" [scr ns, .int a, .int most] = .ok (.d (shD (sheetA ns a most))) := by
  rw [go__law_sheet h3]
  refine of_ends ?_
  have pick := fun {k m : Int} (h0 : 0 ≤ k) (hm : 0 < m) => r_pick (Γ := Γ) (gl := gl) h1 h2 n ns h0 hm
  have p40 := pk_nn ns a (m := 4) (by decide)
  have p41 := pk_lt ns a (m := 4) (by decide)
  have c0 := pk_nn ns (a + 1) (m := most + 1) (by omega)
  have c1 := pk_lt ns (a + 1) (m := most + 1) (by omega)
  have hs : atI [D.int 12, .int 30, .int 30, .int 200] (pk ns a 4) = some (.int (spanA ns a)) := at_ints (ns := [12, 30, 30, 200]) p40 (by simpa using p41)
  have sp := span_ge ns a
  unfold c__law_sheet
  refine q_nx (ρ1 := [.v (scr ns), .v (.int a), .v (.int most), .v (.int (spanA ns a)), .no, .no, .no, .no, .no]) (by simp only [EVb, EVc, evW.eq_27, evW.eq_28, compfEv, rdF, compkEv, popdOwn, evVs, evBs, evT, evO, evIt, rdB, rdV, List.getD_cons_zero, List.getD_cons_succ, List.set_cons_zero, List.set_cons_succ, biEv, intEv, absEv, tupleEv, eq_self, decide_true, decide_false, if_true, if_false, appOwn, extOwn, pick h0 (show (0 : Int) < 4 by decide), hs]) ?_
  refine q_nx (ρ1 := [.v (scr ns), .v (.int a), .v (.int most), .v (.int (spanA ns a)), .v (.lst (names10.map .str)), .no, .no, .no, .no]) (by simp only [EVb, EVc, evW.eq_27, evW.eq_28, compfEv, rdF, compkEv, popdOwn, evVs, evBs, evT, evO, evIt, rdB, rdV, List.getD_cons_zero, List.getD_cons_succ, List.set_cons_zero, List.set_cons_succ, biEv, intEv, absEv, tupleEv, eq_self, decide_true, decide_false, if_true, if_false, appOwn, extOwn]; rfl) ?_
  refine q_nx (ρ1 := [.v (scr ns), .v (.int a), .v (.int most), .v (.int (spanA ns a)), .v (.lst (names10.map .str)), .ol [], .no, .no, .no]) (by simp only [EVb, EVc, evW.eq_27, evW.eq_28, compfEv, rdF, compkEv, popdOwn, evVs, evBs, evT, evO, evIt, rdB, rdV, List.getD_cons_zero, List.getD_cons_succ, List.set_cons_zero, List.set_cons_succ, biEv, intEv, absEv, tupleEv, eq_self, decide_true, decide_false, if_true, if_false, appOwn, extOwn]) ?_
  refine q_for (enc := fun k : Nat => D.int k) (List.range (pk ns (a + 1) (most + 1)).toNat) ?_ (fun pre ρ => ∃ x y z, ρ = [.v (scr ns), .v (.int a), .v (.int most), .v (.int (spanA ns a)), .v (.lst (names10.map .str)), .ol ((pre.map (mkA ns a)).map mD), x, y, z]) ⟨_, _, _, rfl⟩ (fun pre k post e ρ ⟨x, y, z, r⟩ => ?_) fun ρ ⟨x, y, z, r⟩ => ?_
  · simp only [EVb, EVc, evW.eq_27, evW.eq_28, compfEv, rdF, compkEv, popdOwn, evVs, evBs, evT, evO, evIt, rdB, rdV, List.getD_cons_zero, List.getD_cons_succ, List.set_cons_zero, List.set_cons_succ, biEv, intEv, absEv, tupleEv, eq_self, decide_true, decide_false, if_true, if_false, appOwn, extOwn, pick (show 0 ≤ a + 1 by omega) (show 0 < most + 1 by omega), rng_ok (show (-1000000 : Int) ≤ 0 by decide) (show pk ns (a + 1) (most + 1) ≤ 1000000 by omega) (by decide) (show (-1000000 : Int) ≤ pk ns (a + 1) (most + 1) by omega), if_true]
    rw [intsTo_eq, List.map_map]
    congr 2
    apply List.map_congr_left
    intro j _
    simp
  · subst r
    have kl : k < (pk ns (a + 1) (most + 1)).toNat := by
      have : k ∈ List.range (pk ns (a + 1) (most + 1)).toNat := by rw [e]; simp
      simpa using this
    have pl : pre.length < 10 := by
      have := congrArg List.length e
      simp at this
      omega
    have q0 := pk_nn ns (a + 12 + 3 * k) (m := 3) (by decide)
    have q1 := pk_lt ns (a + 12 + 3 * k) (m := 3) (by decide)
    have hb : atI [D.int 3, .int 8, .int (spanA ns a)] (pk ns (a + 12 + 3 * k) 3) = some (.int ([3, 8, spanA ns a].getD (pk ns (a + 12 + 3 * k) 3).toNat 0)) := at_ints (ns := [3, 8, spanA ns a]) q0 (by simpa using q1)
    have bg := big_ge ns a (pk ns (a + 12 + 3 * k) 3).toNat (by omega)
    have hn : atI (names10.map D.str) (k : Int) = some (.str (names10.getD (k : Int).toNat "")) := at_map (by omega) (by show (k : Int) < 10; omega) _
    refine ⟨_, rfl, ?_⟩
    simp only [x__law_sheet_1, evSs, EVb, EVc, evW.eq_27, evW.eq_28, compfEv, rdF, compkEv, popdOwn, evVs, evBs, evT, evO, evIt, rdB, rdV, List.getD_cons_zero, List.getD_cons_succ, List.set_cons_zero, List.set_cons_succ, biEv, intEv, absEv, tupleEv, eq_self, decide_true, decide_false, if_true, if_false, appOwn, extOwn, bin_mul 3 _ (.inl (by decide)), pick (show 0 ≤ a + 10 + 3 * (k : Int) by omega) (show 0 < spanA ns a by omega), pick (show 0 ≤ a + 12 + 3 * (k : Int) by omega) (show (0 : Int) < 3 by decide), hb, pick (show 0 ≤ a + 11 + 3 * (k : Int) by omega) (show 0 < [3, 8, spanA ns a].getD (pk ns (a + 12 + 3 * k) 3).toNat 0 by omega), hn]
    rw [if_pos (show (List.map mD (List.map (mkA ns a) pre)).length < SIZE by simp [SIZE]; omega)]
    simp only [List.map_append, List.map_cons, List.map_nil]
    exact ⟨_, _, _, rfl⟩
  · subst r
    simp only [evSs, EVb, EVc, evW.eq_27, evW.eq_28, compfEv, rdF, compkEv, popdOwn, evVs, evBs, evT, evO, evIt, rdB, rdV, List.getD_cons_zero, List.getD_cons_succ, List.set_cons_zero, List.set_cons_succ, biEv, intEv, absEv, tupleEv, eq_self, decide_true, decide_false, if_true, if_false, appOwn, extOwn]
    rfl
theorem sheetA_len (ns : List Int) (a : Int) {most : Int} (hm : 0 ≤ most) : (sheetA ns a most).length ≤ most.toNat := by
  have c1 := pk_lt ns (a + 1) (m := most + 1) (by omega)
  simp only [sheetA, List.length_map, List.length_range]
  omega
theorem sheetA_mem {ns : List Int} {a most : Int} {m : M} (h : m ∈ sheetA ns a most) : 0 ≤ m.b ∧ m.b < m.e ∧ m.e ≤ 399 := by
  obtain ⟨k, _, rfl⟩ := List.mem_map.mp h
  have sp := span_ge ns a
  have q0 := pk_nn ns (a + 12 + 3 * k) (m := 3) (by decide)
  have q1 := pk_lt ns (a + 12 + 3 * k) (m := 3) (by decide)
  have bg := big_ge ns a (pk ns (a + 12 + 3 * k) 3).toNat (by omega)
  have b0 := pk_nn ns (a + 10 + 3 * k) (m := spanA ns a) (by omega)
  have b1 := pk_lt ns (a + 10 + 3 * k) (m := spanA ns a) (by omega)
  have s0 := pk_nn ns (a + 11 + 3 * k) (m := [3, 8, spanA ns a].getD (pk ns (a + 12 + 3 * k) 3).toNat 0) (by omega)
  have s1 := pk_lt ns (a + 11 + 3 * k) (m := [3, 8, spanA ns a].getD (pk ns (a + 12 + 3 * k) 3).toNat 0) (by omega)
  simp only [mkA, begA, sizeA]
  refine ⟨b0, by omega, by omega⟩
theorem sheetA_nodup (ns : List Int) (a : Int) {most : Int} (hm0 : 0 ≤ most) (hm : most ≤ 10) : ((sheetA ns a most).map M.n).Nodup := by
  have c1 := pk_lt ns (a + 1) (m := most + 1) (by omega)
  have nd : names10.Nodup := by decide
  simp only [sheetA, List.map_map]
  have e : (List.range (pk ns (a + 1) (most + 1)).toNat).map (M.n ∘ mkA ns a) = names10.take (pk ns (a + 1) (most + 1)).toNat := by
    apply List.ext_getElem
    · simp [names10]
      omega
    · intro i i1 i2
      simp only [List.length_map, List.length_range] at i1
      simp only [List.getElem_map, List.getElem_range, Function.comp_apply, mkA, List.getElem_take]
      rw [List.getD_eq_getElem?_getD, List.getElem?_eq_getElem (by simp [names10]; omega)]
      rfl
  rw [e]
  exact nd.sublist (List.take_sublist _ _)
end
end G81
end
section
set_option linter.all false
set_option maxHeartbeats 1000000
namespace G81
open PySem PySem.Spec L2
section
variable {Γ : Str → Option FD} {gl : Str → Option D}
theorem r_meeting_of (h : Γ "meeting_of" = some fd_meeting_of) (n : Nat) (s : List M) (x : Str) : run Γ gl (n + 1) "meeting_of" [shD s, .str x] = match s.find? (fun m => decide (m.n = x)) with
    | some m => .ok (.d (mD m))
    | none => .exc "NoMeeting" := by
  rw [go_meeting_of h]
  refine of_ends ?_
  refine q_for (enc := mD) s rfl (fun pre ρ => (∃ z, ρ = [.v (shD s), .v (.str x), z]) ∧ ∀ m ∈ pre, ¬ m.n = x) ⟨⟨_, rfl⟩, fun m h => absurd h List.not_mem_nil⟩ (fun pre m post e ρ ⟨⟨z, r⟩, np⟩ => ?_) fun ρ ⟨⟨z, r⟩, np⟩ => ?_
  · subst r
    refine ⟨_, rfl, ?_⟩
    by_cases hm : m.n = x
    · have e2 : s.find? (fun m => decide (m.n = x)) = some m := by
        rw [e, List.find?_append, List.find?_eq_none.mpr fun y hy => by simpa using np y hy, List.find?_cons, decide_eq_true hm]
        rfl
      simp only [x_meeting_of_1, evSs, EVb, EVc, evW.eq_27, evW.eq_28, compfEv, rdF, compkEv, popdOwn, evVs, evBs, evT, evO, evIt, rdB, rdV, List.getD_cons_zero, List.getD_cons_succ, List.set_cons_zero, List.set_cons_succ, biEv, intEv, absEv, tupleEv, eq_self, decide_true, decide_false, if_true, if_false, appOwn, extOwn, mD, hm, decide_true, if_true, e2]
    · simp only [x_meeting_of_1, evSs, EVb, EVc, evW.eq_27, evW.eq_28, compfEv, rdF, compkEv, popdOwn, evVs, evBs, evT, evO, evIt, rdB, rdV, List.getD_cons_zero, List.getD_cons_succ, List.set_cons_zero, List.set_cons_succ, biEv, intEv, absEv, tupleEv, eq_self, decide_true, decide_false, if_true, if_false, appOwn, extOwn, mD, hm, decide_false, Bool.false_eq_true, if_false]
      refine ⟨⟨_, rfl⟩, fun y hy => ?_⟩
      rcases List.mem_append.mp hy with hy | hy
      · exact np y hy
      · rw [List.mem_singleton.mp hy]
        exact hm
  · subst r
    rw [List.find?_eq_none.mpr fun y hy => by simpa using np y hy]
    simp only [evSs, EVb, EVc, evW.eq_27, evW.eq_28, compfEv, rdF, compkEv, popdOwn, evVs, evBs, evT, evO, evIt, rdB, rdV, List.getD_cons_zero, List.getD_cons_succ, List.set_cons_zero, List.set_cons_succ, biEv, intEv, absEv, tupleEv, eq_self, decide_true, decide_false, if_true, if_false, appOwn, extOwn]
    rfl
theorem find_name {s : List M} {m : M} (nd : (s.map M.n).Nodup) (hm : m ∈ s) : s.find? (fun o => decide (o.n = m.n)) = some m := by
  induction s with
  | nil => cases hm
  | cons a r ih =>
    rw [List.map_cons, List.nodup_cons] at nd
    rw [List.find?_cons]
    rcases List.mem_cons.mp hm with rfl | hm
    · simp
    · have : ¬ a.n = m.n := fun e => nd.1 (by rw [e]; exact List.mem_map_of_mem hm)
      rw [decide_eq_false this]
      exact ih nd.2 hm
end
end G81
end
section
set_option linter.all false
set_option maxHeartbeats 1000000
namespace G81
open PySem PySem.Spec L2
abbrev ivs (s : List M) : List (Int × Int) := s.map fun m => (m.b, m.e)
abbrev Sep (l : List (Int × Int)) : Prop := l.Pairwise fun p q => p.2 < q.1
section
variable {Γ : Str → Option FD} {gl : Str → Option D}
end
section
variable {Γ : Str → Option FD} {gl : Str → Option D}
end
end G81
end
section
set_option linter.all false
set_option maxHeartbeats 2000000
namespace G81
open PySem PySem.Spec L2
abbrev Cov (l : List (Int × Int)) (t : Int) : Prop := ∃ p ∈ l, p.1 ≤ t ∧ t < p.2
abbrev shsD (ss : List (List M)) : D := .lst (ss.map fun s => shD s)
section
variable {Γ : Str → Option FD} {gl : Str → Option D}
end
end G81
end
section
set_option linter.all false
set_option maxHeartbeats 2000000
namespace G81
open PySem PySem.Spec L2
section
variable {Γ : Str → Option FD} {gl : Str → Option D}
end
end G81
end
section
set_option linter.all false
set_option maxHeartbeats 2000000
namespace G81
open PySem PySem.Spec L2
abbrev Tri := Int × Int × Int
structure DayM (m : M) : Prop where
  b : 0 ≤ m.b
  be : m.b < m.e
  e : m.e ≤ 480
section
variable {Γ : Str → Option FD} {gl : Str → Option D}
end
end G81
end
section
set_option linter.all false
set_option maxHeartbeats 2000000
namespace G81
open PySem PySem.Spec L2
abbrev Row := Int × Int × Int
section
variable {Γ : Str → Option FD} {gl : Str → Option D}
end
end G81
end
section
set_option linter.all false
set_option maxHeartbeats 2000000
namespace G81
open PySem PySem.Spec L2
def ltS (a b : Str) : Prop := leS a b = true ∧ a ≠ b
instance (a b : Str) : Decidable (ltS a b) := by unfold ltS; exact inferInstance
theorem leS_tr (a b c : Str) (h1 : leS a b = true) (h2 : leS b c = true) : leS a c = true := by
  simp only [leS, decide_eq_true_eq] at *
  exact List.le_trans h1 h2
theorem leS_tot (a b : Str) : (leS a b || leS b a) = true := by
  simp only [leS, Bool.or_eq_true, decide_eq_true_eq]
  exact List.le_total _ _
section
variable {Γ : Str → Option FD} {gl : Str → Option D}
end
theorem sheetA_names (ns : List Int) (a : Int) {most : Int} (hm0 : 0 ≤ most) (hm : most ≤ 10) : (sheetA ns a most).map M.n = names10.take (pk ns (a + 1) (most + 1)).toNat := by
  have c1 := pk_lt ns (a + 1) (m := most + 1) (by omega)
  simp only [sheetA, List.map_map]
  apply List.ext_getElem
  · simp [names10]
    omega
  · intro i i1 i2
    simp only [List.length_map, List.length_range] at i1
    simp only [List.getElem_map, List.getElem_range, Function.comp_apply, mkA, List.getElem_take]
    rw [List.getD_eq_getElem?_getD, List.getElem?_eq_getElem (by simp [names10]; omega)]
    rfl
theorem sheetA_name {ns : List Int} {a most : Int} (hm0 : 0 ≤ most) (hm : most ≤ 10) {m : M} (h : m ∈ sheetA ns a most) : m.n ∈ names10 := by
  have : m.n ∈ (sheetA ns a most).map M.n := List.mem_map.mpr ⟨m, h, rfl⟩
  rw [sheetA_names ns a hm0 hm] at this
  exact List.mem_of_mem_take this
end G81
end
section
set_option linter.all false
set_option maxHeartbeats 2000000
namespace G81
open PySem PySem.Spec L2
structure Zo where
  m0 : Int
  rs : List (Int × Int)
def Zo.all (z : Zo) : List (Option Int × Int) := (none, z.m0) :: z.rs.map fun p => (some p.1, p.2)
structure Zo.Ok (z : Zo) : Prop where
  m0 : -24 ≤ z.m0 ∧ z.m0 ≤ 24
  rs : ∀ p ∈ z.rs, -24 ≤ p.2 ∧ p.2 ≤ 24
  up : (z.rs.map fun p => p.1).Pairwise (· < ·)
  len : z.rs.length ≤ 4
section
variable {Γ : Str → Option FD} {gl : Str → Option D}
end
end G81
end
section
set_option linter.all false
set_option maxHeartbeats 2000000
namespace G81
open PySem PySem.Spec L2
def mg (last : Int) : List M → List Int
  | [] => []
  | m :: r => if last < m.b then (m.e - 1) :: mg (m.e - 1) r else mg last r
abbrev EndUp (l : List M) : Prop := l.Pairwise fun x y => x.e ≤ y.e
abbrev Apart (l : List M) : Prop := l.Pairwise fun x y => ov x y = false
theorem leb_tr (a b c : D) (h1 : leb a b = true) (h2 : leb b c = true) : leb a c = true := by
  unfold leb ltb PySem.W.dataLt at *
  simp only [Bool.not_eq_true'] at *
  cases q : PyProof.Rows.lexLt PyProof.Rows.itemOrd (PySem.W.keyToks c.toP) (PySem.W.keyToks a.toP) with
  | false => rfl
  | true =>
    rcases PyProof.Rows.lex_negTrans _ (PySem.W.keyToks b.toP) _ q with z | z
    · rw [z] at h2; cases h2
    · rw [z] at h1; cases h1
theorem leb_to (a b : D) : (leb a b || leb b a) = true := by
  unfold leb ltb PySem.W.dataLt
  cases q : PyProof.Rows.lexLt PyProof.Rows.itemOrd (PySem.W.keyToks b.toP) (PySem.W.keyToks a.toP) with
  | false => rfl
  | true =>
    cases z : PyProof.Rows.lexLt PyProof.Rows.itemOrd (PySem.W.keyToks a.toP) (PySem.W.keyToks b.toP) with
    | false => rfl
    | true =>
      have := PyProof.Rows.lex_trans _ _ _ q z
      rw [PyProof.Rows.lex_irrefl] at this
      cases this
structure Sh (s : List M) : Prop where
  len : s.length ≤ 100
  ok : ∀ m ∈ s, 0 ≤ m.b ∧ m.b < m.e ∧ m.e ≤ 1000
section
variable {Γ : Str → Option FD} {gl : Str → Option D}
end
end G81
end
section
set_option linter.all false
set_option maxHeartbeats 2000000
namespace G81
open PySem PySem.Spec L2
theorem ov_sym (x y : M) : ov x y = ov y x := by
  unfold ov
  rw [Bool.and_comm]
/-- a sheet, or a list of meetings -/
structure SeqM (d : D) (l : List M) : Prop where
  en : enum? d = some (enumD 0 (l.map mD))
  sl : ∀ k : Nat, ∃ w, slEv d (some (k : Int)) none = .ok w ∧ seqs? w.toD = some ((l.drop k).map mD)
def lo (x y : M) : Bool := decide (max x.b y.b < min x.e y.e)
theorem lo_ov {x y : M} (hx : x.b < x.e) (hy : y.b < y.e) : lo x y = ov x y := by
  unfold lo ov
  rw [← Bool.decide_and]
  exact decide_eq_decide.mpr (by omega)
section
variable {Γ : Str → Option FD} {gl : Str → Option D}
theorem r_over (h : Γ "_law_over" = some fd__law_over) (n : Nat) (x y : M) : run Γ gl (n + 1) "_law_over" [mD x, mD y] = .ok (.d (.bl (lo x y))) := by
  rw [go__law_over h]
  simp only [c__law_over, evSs, EVb, EVc, evW.eq_27, evW.eq_28, compfEv, rdF, compkEv, popdOwn, evVs, evBs, evT, evO, evIt, rdB, rdV, List.getD_cons_zero, List.getD_cons_succ, List.set_cons_zero, List.set_cons_succ, biEv, intEv, absEv, tupleEv, eq_self, decide_true, decide_false, if_true, if_false, appOwn, extOwn, ix_mD1, ix_mD2]
  rfl
end
end G81
end
section
set_option linter.all false
set_option maxHeartbeats 2000000
namespace G81
open PySem PySem.Spec L2
def kyD (m : M) : D := .tup [.int m.b, .int (0 - m.e), .str m.n]
theorem sortOk_ky {l : List M} (h : l.length ≤ SIZE) : sortOk (l.map kyD) = true := by
  have hp : D.pls NEST (l.map kyD) = true := pls_map fun a _ => pl_le (n := 1) (by simp [kyD, D.pl, D.pls]) (by decide)
  simp only [sortOk, hp, alikes, List.length_map, h, decide_true, Bool.true_and, List.all_map, Bool.and_eq_true, List.all_eq_true, Bool.or_eq_true, Function.comp_apply]
  refine ⟨fun a _ b _ => by simp [kyD, D.toP, D.toPs, PySem.W.alike, PySem.W.alikeAll], .inr fun a _ => rfl⟩
def orderL (l : List M) : List M := l.mergeSort fun a b => leb (kyD a) (kyD b)
theorem orderL_perm (l : List M) : (orderL l).Perm l := List.mergeSort_perm l _
theorem sorted_ky {l : List M} (h : l.length ≤ SIZE) : sortedEv [.lst (l.map kyD)] = .ok (.fl ((orderL l).map kyD)) := by
  rw [sortedEv, if_pos (sortOk_ky h)]
  congr 2
  unfold sortD orderL
  exact (List.map_mergeSort (f := kyD) (r := fun a b => leb (kyD a) (kyD b)) (s := leb) fun a _ b _ => rfl).symm
section
variable {Γ : Str → Option FD} {gl : Str → Option D}
theorem r_order (h : Γ "laying_order" = some fd_laying_order) (n : Nat) {s : List M} (hs : s.length ≤ 1000) : run Γ gl (n + 1) "laying_order" [shD s] = .ok (.fl ((orderL s).map mD)) := by
  rw [go_laying_order h]
  have hc := ev_compA (cl := run Γ gl n) (gl := gl) (elt := x_laying_order_1) (g := .one 2) (it := .seq (.var 0)) (own := [2]) (ρ := [.v (shD s), .no, .no, .no, .no, .no]) (b := false) kyD mD s (by simp only [EVb, EVc, evW.eq_27, evW.eq_28, compfEv, rdF, compkEv, popdOwn, evVs, evBs, evT, evO, evIt, rdB, rdV, List.getD_cons_zero, List.getD_cons_succ, List.set_cons_zero, List.set_cons_succ, biEv, intEv, absEv, tupleEv, eq_self, decide_true, decide_false, if_true, if_false, appOwn, extOwn]) (by simp only [SIZE]; omega) fun m _ => ⟨_, rfl, by
    simp only [x_laying_order_1, EVb, EVc, evW.eq_27, evW.eq_28, compfEv, rdF, compkEv, popdOwn, evVs, evBs, evT, evO, evIt, rdB, rdV, List.getD_cons_zero, List.getD_cons_succ, List.set_cons_zero, List.set_cons_succ, biEv, intEv, absEv, tupleEv, eq_self, decide_true, decide_false, if_true, if_false, appOwn, extOwn, wipeE]
    rfl⟩
  have hl := (orderL_perm s).length_eq
  have hc2 := ev_compA (cl := run Γ gl n) (gl := gl) (elt := x_laying_order_2) (g := .tup [3, 4, 5]) (it := .seq (.var 1)) (own := [3, 4, 5]) (ρ := [.v (shD s), .v (.lst ((orderL s).map kyD)), .no, .no, .no, .no]) (b := false) mD kyD (orderL s) (by simp only [EVb, EVc, evW.eq_27, evW.eq_28, compfEv, rdF, compkEv, popdOwn, evVs, evBs, evT, evO, evIt, rdB, rdV, List.getD_cons_zero, List.getD_cons_succ, List.set_cons_zero, List.set_cons_succ, biEv, intEv, absEv, tupleEv, eq_self, decide_true, decide_false, if_true, if_false, appOwn, extOwn]) (by simp only [SIZE]; omega) fun m _ => ⟨_, rfl, by
    simp only [x_laying_order_2, EVb, EVc, evW.eq_27, evW.eq_28, compfEv, rdF, compkEv, popdOwn, evVs, evBs, evT, evO, evIt, rdB, rdV, List.getD_cons_zero, List.getD_cons_succ, List.set_cons_zero, List.set_cons_succ, biEv, intEv, absEv, tupleEv, eq_self, decide_true, decide_false, if_true, if_false, appOwn, extOwn, wipeE]
    rw [show 0 - (0 - m.e) = m.e by omega]
    rfl⟩
  simp only [c_laying_order, evSs, EVb, EVc, evW.eq_27, evW.eq_28, compfEv, rdF, compkEv, popdOwn, evVs, evBs, evT, evO, evIt, rdB, rdV, List.getD_cons_zero, List.getD_cons_succ, List.set_cons_zero, List.set_cons_succ, biEv, intEv, absEv, tupleEv, eq_self, decide_true, decide_false, if_true, if_false, appOwn, extOwn, hc, sorted_ky (show s.length ≤ SIZE by simp only [SIZE]; omega), hc2]
end
end G81
end
section
set_option linter.all false
set_option maxHeartbeats 2000000
namespace G81
open PySem PySem.Spec L2
theorem nodup_sub_le {α : Type} [DecidableEq α] : ∀ {l m : List α}, l.Nodup → (∀ x ∈ l, x ∈ m) → l.length ≤ m.length
  | [], _, _, _ => Nat.zero_le _
  | a :: r, m, h, s => by
    rw [List.nodup_cons] at h
    have ha := s a List.mem_cons_self
    have ih := nodup_sub_le (l := r) (m := m.erase a) h.2 fun x hx => (List.mem_erase_of_ne (fun e => h.1 (by rw [← e]; exact hx))).mpr (s x (List.mem_cons_of_mem _ hx))
    rw [List.length_erase_of_mem ha] at ih
    have : 0 < m.length := List.length_pos_of_mem ha
    rw [List.length_cons]
    omega
theorem leb_begins {a b : M} (h : leb (kyD a) (kyD b) = true) : a.b ≤ b.b := by
  by_cases c : a.b ≤ b.b
  · exact c
  · exfalso
    unfold leb ltb kyD at h
    simp only [D.toP, D.toPs] at h
    rw [PySem.W.dataLt_tuple, PySem.W.dataLt_cons (by simp [PySem.W.alike])] at h
    rw [if_neg (by simp [PyData.eqv]; omega), PySem.W.dataLt_int, decide_eq_true (by omega)] at h
    cases h
theorem orderL_up (l : List M) : (orderL l).Pairwise fun x y => x.b ≤ y.b :=
  (List.pairwise_mergeSort (le := fun a b => leb (kyD a) (kyD b)) (fun a b c h1 h2 => leb_tr _ _ _ h1 h2) (fun a b => leb_to _ _) l).imp fun h => leb_begins h
/-- columns, as a def from meetings -/
structure ColOk (R0 : List M) (col : M → Int) : Prop where
  nn : ∀ m ∈ R0, 0 ≤ col m
  ne : ∀ m ∈ R0, ∀ o ∈ R0, m ≠ o → ov m o = true → col m ≠ col o
  fill : ∀ m ∈ R0, ∀ j, 0 ≤ j → j < col m → ∃ o ∈ R0, col o = j ∧ ov m o = true ∧ o.b ≤ m.b
section
variable {Γ : Str → Option FD} {gl : Str → Option D}
end
end G81
end
section
set_option linter.all false
set_option maxHeartbeats 2000000
namespace G81
open PySem PySem.Spec L2
theorem leb_str (a b : Str) : leb (.str a) (.str b) = leS a b := by
  have h : (fun d e : D => leb d e) = PySem.W.dataLe false D.toP := (dataLe_leb).symm
  have h2 := congrFun (congrFun (PySem.W.dataLe_str (β := Str) (fun x => x)) a) b
  have h3 : leb (.str a) (.str b) = PySem.W.dataLe false D.toP (.str a) (.str b) := congrFun (congrFun h _) _
  rw [h3]
  exact h2
theorem sortOk_str {l : List Str} (h : l.length ≤ SIZE) : sortOk (l.map .str) = true := by
  have hp : D.pls NEST (l.map D.str) = true := pls_map fun a _ => pl_le (n := 0) (by rw [D.pl]) (by decide)
  simp only [sortOk, hp, alikes, List.length_map, h, decide_true, Bool.true_and, List.all_map, Bool.and_eq_true, List.all_eq_true, Bool.or_eq_true, Function.comp_apply]
  exact ⟨fun a _ b _ => by simp [D.toP, PySem.W.alike], .inl fun a _ => rfl⟩
theorem mergeD_app : ∀ (more kvs : List (Key × D)), ((kvs ++ more).map fun kv => kv.1).Nodup → mergeD kvs more = kvs ++ more
  | [], kvs, _ => by rw [List.append_nil]; rfl
  | a :: r, kvs, h => by
    show mergeD (putD kvs a.1 a.2) r = _
    have hn : ¬ kvs.any (fun kv => decide (kv.1 = a.1)) = true := by
      intro q
      obtain ⟨x, hx, e⟩ := List.any_eq_true.mp q
      rw [List.map_append, List.map_cons, List.nodup_append] at h
      exact h.2.2 x.1 (List.mem_map.mpr ⟨x, hx, rfl⟩) a.1 List.mem_cons_self (of_decide_eq_true e)
    have e : putD kvs a.1 a.2 = kvs ++ [a] := by
      unfold putD
      rw [if_neg hn]
    rw [e, mergeD_app r (kvs ++ [a]) (by rw [List.append_assoc]; exact h), List.append_assoc]
    rfl
section
variable {Γ : Str → Option FD} {gl : Str → Option D}
end
section
variable {Γ : Str → Option FD} {gl : Str → Option D}
end
end G81
end
section
set_option linter.all false
set_option maxHeartbeats 4000000
namespace G81
open PySem PySem.Spec L2
theorem valD_mem {kvs : List (Key × D)} (nd : (kvs.map fun kv => kv.1).Nodup) {kv : Key × D} (h : kv ∈ kvs) : valD kvs kv.1 = some kv.2 := by
  unfold valD
  induction kvs with
  | nil => cases h
  | cons a r ih =>
    rw [List.map_cons, List.nodup_cons] at nd
    rw [List.find?_cons]
    rcases List.mem_cons.mp h with rfl | h
    · simp
    · have : ¬ a.1 = kv.1 := fun e => nd.1 (by rw [e]; exact List.mem_map.mpr ⟨kv, h, rfl⟩)
      rw [decide_eq_false this]
      exact ih nd.2 h
section
variable {Γ : Str → Option FD} {gl : Str → Option D}
end
end G81
end
section
set_option linter.all false
set_option maxHeartbeats 4000000
namespace G81
open PySem PySem.Spec L2
def gStep (g : List (List M)) (z : Int) (m : M) : List (List M) := if g ≠ [] ∧ m.b < z then g.dropLast ++ [g.getLastD [] ++ [m]] else g ++ [[m]]
def gGo (s : List (List M) × Int) (l : List M) : List (List M) × Int := l.foldl (fun s m => (gStep s.1 s.2 m, max s.2 m.e)) s
def gOf (S : List M) : List (List M) := (gGo ([], 0) (orderL S)).1
theorem gStep_n (g : List (List M)) (z : Int) (m : M) : grpStep (g.map fun x => x.map M.n) z m.b m.n = (gStep g z m).map fun x => x.map M.n := by
  unfold grpStep gStep
  have e : (g.map fun x => x.map M.n).getLastD [] = (g.getLastD []).map M.n := by
    rw [List.getLastD_eq_getLast?, List.getLast?_map, List.getLastD_eq_getLast?]
    cases g.getLast? <;> rfl
  by_cases c : g ≠ [] ∧ m.b < z
  · rw [if_pos c, if_pos ⟨by simpa using c.1, c.2⟩, e, List.map_append, List.map_dropLast]
    simp
  · rw [if_neg c, if_neg (fun h => c ⟨by simpa using h.1, h.2⟩), List.map_append]
    rfl
theorem gGo_n : ∀ (l : List M) (g : List (List M)) (z : Int), grpL (g.map fun x => x.map M.n) z (l.map mD) = some ((gGo (g, z) l).1.map (fun x => x.map M.n), (gGo (g, z) l).2)
  | [], g, z => rfl
  | m :: r, g, z => by
    show grpL (grpStep (g.map fun x => x.map M.n) z m.b m.n) (max z m.e) (r.map mD) = _
    rw [gStep_n, gGo_n r]
    rfl
structure GI (pre : List M) (s : List (List M) × Int) : Prop where
  flat : s.1.flatten = pre
  ne : ∀ x ∈ s.1, x ≠ []
  top : ∀ m ∈ pre, m.e ≤ s.2
  apart : s.1.Pairwise fun x y => ∀ a ∈ x, ∀ b ∈ y, a.e ≤ b.b
theorem gi_step {pre : List M} {s : List (List M) × Int} (h : GI pre s) {m : M} (hb : ∀ x ∈ pre, x.b ≤ m.b) : GI (pre ++ [m]) (gStep s.1 s.2 m, max s.2 m.e) := by
  have top : ∀ x ∈ pre ++ [m], x.e ≤ max s.2 m.e := fun x hx => by
    rcases List.mem_append.mp hx with hx | hx
    · have := h.top x hx
      omega
    · rw [List.mem_singleton.mp hx]
      omega
  by_cases c : s.1 ≠ [] ∧ m.b < s.2
  · have es := (List.dropLast_concat_getLast c.1).symm
    have eD : s.1.getLastD [] = s.1.getLast c.1 := by rw [List.getLastD_eq_getLast?, List.getLast?_eq_some_getLast c.1]; rfl
    have hne := h.ne _ (List.getLast_mem c.1)
    have est : gStep s.1 s.2 m = s.1.dropLast ++ [s.1.getLast c.1 ++ [m]] := by unfold gStep; rw [if_pos c, eD]
    have hmem : ∀ x ∈ s.1, ∀ a ∈ x, a ∈ pre := fun x hx a ha => by rw [← h.flat]; exact List.mem_flatten.mpr ⟨x, hx, ha⟩
    have hap := h.apart
    have hfl := h.flat
    rw [es] at hap hfl
    generalize s.1.getLast c.1 = L at est hne hap hfl es
    have hLm : L ∈ s.1 := by rw [es]; simp
    refine ⟨?_, fun x hx => ?_, top, ?_⟩
    · show (gStep s.1 s.2 m).flatten = _
      rw [est, List.flatten_append, ← hfl, List.flatten_append]
      simp
    · have hx : x ∈ gStep s.1 s.2 m := hx
      rw [est] at hx
      rcases List.mem_append.mp hx with hx | hx
      · exact h.ne x (List.dropLast_subset _ hx)
      · rw [List.mem_singleton.mp hx]
        simp
    · show (gStep s.1 s.2 m).Pairwise _
      rw [est]
      have hp := List.pairwise_append.mp hap
      refine List.pairwise_append.mpr ⟨hp.1, List.pairwise_singleton .., fun x hx y hy a ha b hb2 => ?_⟩
      rw [List.mem_singleton.mp hy] at hb2
      rcases List.mem_append.mp hb2 with hb2 | hb2
      · exact hp.2.2 x hx L (by simp) a ha b hb2
      · obtain ⟨w, hw⟩ := List.exists_mem_of_ne_nil L hne
        have h1 := hp.2.2 x hx L (by simp) a ha w hw
        have h2 := hb w (hmem L hLm w hw)
        rw [List.mem_singleton.mp hb2]
        omega
  · have est : gStep s.1 s.2 m = s.1 ++ [[m]] := by unfold gStep; rw [if_neg c]
    refine ⟨?_, fun x hx => ?_, top, ?_⟩
    · show (gStep s.1 s.2 m).flatten = _
      rw [est, List.flatten_append, h.flat]
      rfl
    · have hx : x ∈ gStep s.1 s.2 m := hx
      rw [est] at hx
      rcases List.mem_append.mp hx with hx | hx
      · exact h.ne x hx
      · rw [List.mem_singleton.mp hx]
        simp
    · show (gStep s.1 s.2 m).Pairwise _
      rw [est]
      refine List.pairwise_append.mpr ⟨h.apart, List.pairwise_singleton .., fun x hx y hy a ha b hb2 => ?_⟩
      rw [List.mem_singleton.mp hy] at hb2
      rw [List.mem_singleton.mp hb2]
      have hne : s.1 ≠ [] := fun e => by rw [e] at hx; cases hx
      have h1 : ¬ m.b < s.2 := fun q => c ⟨hne, q⟩
      have h2 := h.top a (by rw [← h.flat]; exact List.mem_flatten.mpr ⟨x, hx, ha⟩)
      omega
theorem gi_go : ∀ (l pre : List M) (s : List (List M) × Int), GI pre s → (pre ++ l).Pairwise (fun x y => x.b ≤ y.b) → GI (pre ++ l) (gGo s l)
  | [], pre, s, h, _ => by rw [List.append_nil]; exact h
  | m :: r, pre, s, h, up => by
    have h2 := gi_step h (m := m) fun x hx => (List.pairwise_append.mp up).2.2 x hx m (by simp)
    have := gi_go r (pre ++ [m]) _ h2 (by rw [List.append_assoc]; exact up)
    rw [List.append_assoc] at this
    exact this
theorem gi_of (S : List M) : GI (orderL S) (gGo ([], 0) (orderL S)) := by
  have := gi_go (orderL S) [] ([], 0) ⟨rfl, fun x h => absurd h List.not_mem_nil, fun m h => absurd h List.not_mem_nil, List.Pairwise.nil⟩ (by rw [List.nil_append]; exact orderL_up S)
  rw [List.nil_append] at this
  exact this
def sortN (g : List M) : List Str := (g.map M.n).mergeSort leS
theorem mem_sortN {g : List M} {x : Str} : x ∈ sortN g ↔ x ∈ g.map M.n := (List.mergeSort_perm _ _).mem_iff
theorem sorted_strs2 {l : List Str} (hl : l.length ≤ SIZE) : sortedEv [.lst (l.map .str)] = .ok (.fl ((l.mergeSort leS).map .str)) := by
  rw [sortedEv, if_pos (sortOk_str hl)]
  congr 2
  unfold sortD
  rw [(List.map_mergeSort (f := D.str) (r := leS) (s := leb) fun a _ b _ => (leb_str a b).symm).symm]
section
variable {Γ : Str → Option FD} {gl : Str → Option D}
theorem r_groups (h1 : Γ "laying_order" = some fd_laying_order) (h2 : Γ "groups" = some fd_groups) (n : Nat) {S : List M} (hS : S.length ≤ 1000) : run Γ gl (n + 2) "groups" [shD S] = .ok (.fl ((gOf S).map fun g => .lst ((sortN g).map .str))) := by
  rw [go_groups h2]
  refine of_ends ?_
  have ho := r_order (gl := gl) h1 n (s := S) hS
  have lO := (orderL_perm S).length_eq
  have gi := gi_of S
  have hg := gGo_n (orderL S) [] 0
  have hlen : ∀ g ∈ gOf S, g.length ≤ 1000 := fun g h => by
    have h1 : g.length ≤ (gOf S).flatten.length := (List.sublist_flatten_of_mem h).length_le
    have h2 : (gOf S).flatten = orderL S := gi.flat
    rw [h2, lO] at h1
    omega
  have hlen2 : (gOf S).length ≤ 1000 := by
    have : ∀ l : List (List M), (∀ x ∈ l, x ≠ []) → l.length ≤ l.flatten.length := by
      intro l
      induction l with
      | nil => exact fun _ => Nat.le_refl _
      | cons a r ih =>
        intro h
        have h1 := ih fun x hx => h x (List.mem_cons_of_mem _ hx)
        have h2 := List.length_pos_iff.mpr (h a List.mem_cons_self)
        rw [List.length_cons, List.flatten_cons, List.length_append]
        omega
    have h1 := this (gOf S) gi.ne
    have h2 : (gOf S).flatten = orderL S := gi.flat
    rw [h2, lO] at h1
    omega
  have eg : (gGo ([], 0) (orderL S)).1 = gOf S := rfl
  rw [eg] at hg
  generalize gOf S = gs at hg hlen hlen2
  generalize (gGo ([], 0) (orderL S)).2 = zz at hg
  have hgr : ∃ x2 x3, evS (run Γ gl (n + 1)) gl (.grp 1 2 3 (.seq (.call "laying_order" (.cons (.var 0) .nil)))) [.v (shD S), .ol [], .v (.int 0), .no, .no] = .nx [.v (shD S), .ol (grpD (gs.map fun x => x.map M.n)), x2, x3, .no] := by
    have hl : ((orderL S).map mD).length < SIZE ∧ 3 < ([Sl.v (shD S), .ol [], .v (.int 0), .no, .no] : En).length := ⟨by rw [List.length_map, lO]; simp only [SIZE]; omega, by show 3 < 5; omega⟩
    have hg : grpL [] 0 ((orderL S).map mD) = some (gs.map (fun x => x.map M.n), zz) := hg
    have e : evS (run Γ gl (n + 1)) gl (.grp 1 2 3 (.seq (.call "laying_order" (.cons (.var 0) .nil)))) [.v (shD S), .ol [], .v (.int 0), .no, .no] = grpEv 1 2 3 ((orderL S).map mD) [.v (shD S), .ol [], .v (.int 0), .no, .no] := by
      simp only [EVb, EVc, evW.eq_27, evW.eq_28, compfEv, rdF, compkEv, popdOwn, evVs, evBs, evT, evO, evIt, rdB, rdV, List.getD_cons_zero, List.getD_cons_succ, List.set_cons_zero, List.set_cons_succ, biEv, intEv, absEv, tupleEv, eq_self, decide_true, decide_false, if_true, if_false, appOwn, extOwn, ho]
    rw [e]
    simp only [grpEv, List.getD_cons_zero, List.getD_cons_succ]
    rw [if_pos hl, hg]
    cases ((orderL S).map mD).getLast? with
    | none => exact ⟨_, _, rfl⟩
    | some d => exact ⟨_, _, rfl⟩
  obtain ⟨x2, x3, hgr⟩ := hgr
  unfold c_groups
  refine q_nx (ρ1 := [.v (shD S), .ol [], .no, .no, .no]) (by simp only [EVb, EVc, evW.eq_27, evW.eq_28, compfEv, rdF, compkEv, popdOwn, evVs, evBs, evT, evO, evIt, rdB, rdV, List.getD_cons_zero, List.getD_cons_succ, List.set_cons_zero, List.set_cons_succ, biEv, intEv, absEv, tupleEv, eq_self, decide_true, decide_false, if_true, if_false, appOwn, extOwn]) ?_
  refine q_nx (ρ1 := [.v (shD S), .ol [], .v (.int 0), .no, .no]) (by simp only [EVb, EVc, evW.eq_27, evW.eq_28, compfEv, rdF, compkEv, popdOwn, evVs, evBs, evT, evO, evIt, rdB, rdV, List.getD_cons_zero, List.getD_cons_succ, List.set_cons_zero, List.set_cons_succ, biEv, intEv, absEv, tupleEv, eq_self, decide_true, decide_false, if_true, if_false, appOwn, extOwn]) ?_
  refine q_nx hgr ?_
  have ed : grpD (gs.map fun x => x.map M.n) = gs.map fun g => D.lst ((g.map M.n).map .str) := by
    unfold grpD
    rw [List.map_map]
    rfl
  rw [ed]
  have hc := ev_compA (cl := run Γ gl (n + 1)) (gl := gl) (elt := x_groups_1) (g := .one 4) (it := .seq (.var 1)) (own := [4]) (ρ := [.v (shD S), .ol (gs.map fun g => D.lst ((g.map M.n).map .str)), x2, x3, .no]) (b := true) (fun g => D.lst ((sortN g).map .str)) (fun g => D.lst ((g.map M.n).map .str)) gs (by simp only [EVb, EVc, evW.eq_27, evW.eq_28, compfEv, rdF, compkEv, popdOwn, evVs, evBs, evT, evO, evIt, rdB, rdV, List.getD_cons_zero, List.getD_cons_succ, List.set_cons_zero, List.set_cons_succ, biEv, intEv, absEv, tupleEv, eq_self, decide_true, decide_false, if_true, if_false, appOwn, extOwn]) (by simp only [SIZE]; omega) fun g hg => ⟨_, rfl, by
    have so := sorted_strs2 (l := g.map M.n) (by rw [List.length_map]; have := hlen g hg; simp only [SIZE]; omega)
    simp only [x_groups_1, EVb, EVc, evW.eq_27, evW.eq_28, compfEv, rdF, compkEv, popdOwn, evVs, evBs, evT, evO, evIt, rdB, rdV, List.getD_cons_zero, List.getD_cons_succ, List.set_cons_zero, List.set_cons_succ, biEv, intEv, absEv, tupleEv, eq_self, decide_true, decide_false, if_true, if_false, appOwn, extOwn, wipeE, so]
    rfl⟩
  simp only [evSs, EVb, EVc, evW.eq_27, evW.eq_28, compfEv, rdF, compkEv, popdOwn, evVs, evBs, evT, evO, evIt, rdB, rdV, List.getD_cons_zero, List.getD_cons_succ, List.set_cons_zero, List.set_cons_succ, biEv, intEv, absEv, tupleEv, eq_self, decide_true, decide_false, if_true, if_false, appOwn, extOwn, hc]
end
theorem grp_mem {S : List M} {m : M} (hm : m ∈ S) : ∃ g ∈ gOf S, m ∈ g := by
  have : m ∈ (gOf S).flatten := by
    rw [show (gOf S).flatten = orderL S from (gi_of S).flat]
    exact (orderL_perm S).mem_iff.mpr hm
  exact List.mem_flatten.mp this
theorem grp_sub {S : List M} {g : List M} (hg : g ∈ gOf S) : ∀ m ∈ g, m ∈ S := fun m hm => by
  have : m ∈ (gOf S).flatten := List.mem_flatten.mpr ⟨g, hg, hm⟩
  rw [show (gOf S).flatten = orderL S from (gi_of S).flat] at this
  exact (orderL_perm S).mem_iff.mp this
/-- two that overlap are in one group -/
theorem grp_ov {S : List M} {g : List M} (hg : g ∈ gOf S) {m o : M} (hm : m ∈ g) (ho : o ∈ S) (h : ov m o = true) : o ∈ g := by
  obtain ⟨g', hg', ho'⟩ := grp_mem ho
  have ap := (gi_of S).apart
  have ap : (gOf S).Pairwise fun x y => ∀ a ∈ x, ∀ b ∈ y, a.e ≤ b.b := ap
  unfold ov at h
  rw [Bool.and_eq_true, decide_eq_true_iff, decide_eq_true_iff] at h
  obtain ⟨i, hi⟩ := List.mem_iff_getElem?.mp hg
  obtain ⟨j, hj⟩ := List.mem_iff_getElem?.mp hg'
  obtain ⟨hi1, hi2⟩ := List.getElem?_eq_some_iff.mp hi
  obtain ⟨hj1, hj2⟩ := List.getElem?_eq_some_iff.mp hj
  by_cases c : i = j
  · subst c
    rw [← hi2, hj2]
    exact ho'
  · rcases Nat.lt_or_gt_of_ne c with c | c
    · have := List.pairwise_iff_getElem.mp ap i j hi1 hj1 c m (by rw [hi2]; exact hm) o (by rw [hj2]; exact ho')
      omega
    · have := List.pairwise_iff_getElem.mp ap j i hj1 hi1 c o (by rw [hj2]; exact ho') m (by rw [hi2]; exact hm)
      omega
end G81
end
section
set_option linter.all false
set_option maxHeartbeats 4000000
namespace G81
open PySem PySem.Spec L2
/-- what boxes tell -/
structure Bx (S : List M) (col en wd : M → Int) : Prop where
  c0 : ∀ m ∈ S, 0 ≤ col m
  lt : ∀ m ∈ S, col m < en m
  le : ∀ m ∈ S, en m ≤ wd m
  same : ∀ m ∈ S, ∀ o ∈ S, ov m o = true → wd o = wd m
  ne : ∀ m ∈ S, ∀ o ∈ S, m ≠ o → ov m o = true → col m ≠ col o
  free : ∀ m ∈ S, ∀ o ∈ S, m ≠ o → ov m o = true → ¬ (col m < col o ∧ col o < en m)
  stop : ∀ m ∈ S, en m < wd m → ∃ o ∈ S, m ≠ o ∧ ov m o = true ∧ col o = en m
  few : ∀ m ∈ S, wd m ≤ 100
section
variable {Γ : Str → Option FD} {gl : Str → Option D}
end
end G81
end
section
set_option linter.all false
set_option maxHeartbeats 4000000
namespace G81
open PySem PySem.Spec L2
theorem leS_anti {a b : Str} (h1 : leS a b = true) (h2 : leS b a = true) : a = b := by
  simp only [leS, decide_eq_true_eq] at h1 h2
  have hc : a.cps = b.cps := Array.toList_inj.mp (List.le_antisymm h1 h2)
  cases a; cases b
  simp only [Str.mk.injEq]
  exact hc
section
variable {Γ : Str → Option FD} {gl : Str → Option D}
end
end G81
end
section
set_option linter.all false
set_option maxHeartbeats 4000000
namespace G81
open PySem PySem.Spec L2
section
variable {Γ : Str → Option FD} {gl : Str → Option D}
end
end G81
end
section
set_option linter.all false
set_option maxHeartbeats 4000000
namespace G81
open PySem PySem.Spec L2
def Chn (g : List M) : Prop := ∀ pre m post, g = pre ++ m :: post → pre ≠ [] → ∃ x ∈ pre, ov x m = true
theorem chn_snoc {g : List M} {m : M} (h : Chn g) (hm : g ≠ [] → ∃ x ∈ g, ov x m = true) : Chn (g ++ [m]) := fun pre a post e ne => by
  rcases List.eq_nil_or_concat post with rfl | ⟨r, x, rfl⟩
  · have e : g ++ [m] = pre ++ [a] := e
    obtain ⟨rfl, e2⟩ := List.append_inj' e rfl
    cases e2
    exact hm ne
  · have e : g ++ [m] = (pre ++ a :: r) ++ [x] := by rw [e, List.concat_eq_append, List.append_assoc]; rfl
    obtain ⟨e2, _⟩ := List.append_inj' e rfl
    exact h pre a r e2 ne
theorem chn_all (A : M → Prop) : ∀ (n : Nat) (g : List M), g.length = n → Chn g → (∀ a ∈ g, ∀ b ∈ g, ov a b = true → A a → A b) → (∃ a ∈ g, A a) → ∀ b ∈ g, A b
  | 0, g, hn, _, _, ⟨a, ha, _⟩ => by
    rw [List.eq_nil_of_length_eq_zero hn] at ha
    cases ha
  | n + 1, g, hn, ch, cl, ⟨a, ha, Aa⟩ => by
    rcases List.eq_nil_or_concat g with rfl | ⟨r, m, e⟩
    · cases ha
    · rw [List.concat_eq_append] at e
      subst e
      have lr : r.length = n := by
        rw [List.length_append, List.length_singleton] at hn
        omega
      have chr : Chn r := fun pre x post e ne => ch pre x (post ++ [m]) (by rw [e, List.append_assoc]; rfl) ne
      have clr : ∀ a ∈ r, ∀ b ∈ r, ov a b = true → A a → A b := fun a ha b hb => cl a (List.mem_append_left _ ha) b (List.mem_append_left _ hb)
      by_cases z : r = []
      · subst z
        intro b hb
        have e1 : a = m := by simpa using ha
        have e2 : b = m := by simpa using hb
        rw [e2, ← e1]
        exact Aa
      · obtain ⟨x, hx, hov⟩ := ch r m [] rfl z
        have key : ∃ y ∈ r, A y := by
          rcases List.mem_append.mp ha with ha | ha
          · exact ⟨a, ha, Aa⟩
          · rw [List.mem_singleton.mp ha] at Aa
            exact ⟨x, hx, cl m (by simp) x (List.mem_append_left _ hx) (by rw [ov_sym]; exact hov) Aa⟩
        have all := chn_all A n r lr chr clr key
        intro b hb
        rcases List.mem_append.mp hb with hb | hb
        · exact all b hb
        · rw [List.mem_singleton.mp hb]
          exact cl x (List.mem_append_left _ hx) m (by simp) hov (all x hx)
structure GC (pre : List M) (s : List (List M) × Int) : Prop where
  chn : ∀ x ∈ s.1, Chn x
  zero : pre = [] → s.2 ≤ 0
  att : pre ≠ [] → ∃ m ∈ pre, m.e = s.2
theorem gc_step {pre : List M} {s : List (List M) × Int} (h : GI pre s) (hc : GC pre s) {m : M} (hb : ∀ x ∈ pre, x.b ≤ m.b) (h0 : 0 ≤ m.b) (hm : m.b < m.e) : GC (pre ++ [m]) (gStep s.1 s.2 m, max s.2 m.e) := by
  refine ⟨fun x hx => ?_, fun z => by simp at z, fun _ => ?_⟩
  · have hx : x ∈ gStep s.1 s.2 m := hx
    by_cases c : s.1 ≠ [] ∧ m.b < s.2
    · have es := (List.dropLast_concat_getLast c.1).symm
      have eD : s.1.getLastD [] = s.1.getLast c.1 := by rw [List.getLastD_eq_getLast?, List.getLast?_eq_some_getLast c.1]; rfl
      have est : gStep s.1 s.2 m = s.1.dropLast ++ [s.1.getLast c.1 ++ [m]] := by unfold gStep; rw [if_pos c, eD]
      rw [est] at hx
      rcases List.mem_append.mp hx with hx | hx
      · exact hc.chn x (List.dropLast_subset _ hx)
      · rw [List.mem_singleton.mp hx]
        refine chn_snoc (hc.chn _ (List.getLast_mem c.1)) fun hne => ?_
        have hpre : pre ≠ [] := fun e => by
          have := hc.zero e
          omega
        obtain ⟨w, hw, ew⟩ := hc.att hpre
        rw [← h.flat] at hw
        obtain ⟨y, hy, hwy⟩ := List.mem_flatten.mp hw
        have hap := h.apart
        have hmem : ∀ x ∈ s.1, ∀ a ∈ x, a ∈ pre := fun x hx a ha => by rw [← h.flat]; exact List.mem_flatten.mpr ⟨x, hx, ha⟩
        have hLm := List.getLast_mem c.1
        have wov : ov w m = true := by
          have := hb w (hmem y hy w hwy)
          unfold ov
          rw [Bool.and_eq_true, decide_eq_true_iff, decide_eq_true_iff]
          omega
        rw [es] at hy hap
        generalize s.1.getLast c.1 = L at hne hy hap hLm ⊢
        rcases List.mem_append.mp hy with hy | hy
        · exfalso
          obtain ⟨v, hv⟩ := List.exists_mem_of_ne_nil L hne
          have h1 := (List.pairwise_append.mp hap).2.2 y hy L (by simp) w hwy v hv
          have h2 := hb v (hmem L hLm v hv)
          omega
        · rw [List.mem_singleton.mp hy] at hwy
          exact ⟨w, hwy, wov⟩
    · have est : gStep s.1 s.2 m = s.1 ++ [[m]] := by unfold gStep; rw [if_neg c]
      rw [est] at hx
      rcases List.mem_append.mp hx with hx | hx
      · exact hc.chn x hx
      · rw [List.mem_singleton.mp hx]
        exact chn_snoc (g := []) (fun pre a post e => by
          have := congrArg List.length e
          rw [List.length_append, List.length_cons, List.length_nil] at this
          omega) fun z => absurd rfl z
  · by_cases q : s.2 ≤ m.e
    · exact ⟨m, by simp, by show m.e = max s.2 m.e; omega⟩
    · have hpre : pre ≠ [] := fun e => by
        have := hc.zero e
        omega
      obtain ⟨w, hw, ew⟩ := hc.att hpre
      exact ⟨w, List.mem_append_left _ hw, by show w.e = max s.2 m.e; omega⟩
theorem gc_go : ∀ (l pre : List M) (s : List (List M) × Int), GI pre s → GC pre s → (pre ++ l).Pairwise (fun x y => x.b ≤ y.b) → (∀ m ∈ l, 0 ≤ m.b ∧ m.b < m.e) → GC (pre ++ l) (gGo s l)
  | [], pre, s, h, hc, _, _ => by rw [List.append_nil]; exact hc
  | m :: r, pre, s, h, hc, up, hl => by
    have hb := fun x hx => (List.pairwise_append.mp up).2.2 x hx m (by simp)
    have h2 := gi_step h (m := m) hb
    have hm := hl m (by simp)
    have h3 := gc_step h hc (m := m) hb hm.1 hm.2
    have := gc_go r (pre ++ [m]) _ h2 h3 (by rw [List.append_assoc]; exact up) fun x hx => hl x (List.mem_cons_of_mem _ hx)
    rw [List.append_assoc] at this
    exact this
theorem grp_chn {S : List M} (ok : ∀ m ∈ S, 0 ≤ m.b ∧ m.b < m.e) {g : List M} (hg : g ∈ gOf S) : Chn g := by
  have := gc_go (orderL S) [] ([], 0) ⟨rfl, fun x h => absurd h List.not_mem_nil, fun m h => absurd h List.not_mem_nil, List.Pairwise.nil⟩ ⟨fun x h => absurd h List.not_mem_nil, fun _ => Int.le_refl _, fun z => absurd rfl z⟩ (by rw [List.nil_append]; exact orderL_up S) fun m hm => ok m ((orderL_perm S).mem_iff.mp hm)
  exact this.chn g hg
/-- none can be parted -/
theorem grp_all {S : List M} (ok : ∀ m ∈ S, 0 ≤ m.b ∧ m.b < m.e) {g : List M} (hg : g ∈ gOf S) (A : M → Prop) (cl : ∀ a ∈ g, ∀ b ∈ g, ov a b = true → A a → A b) {a : M} (ha : a ∈ g) (Aa : A a) : ∀ b ∈ g, A b :=
  chn_all A _ g rfl (grp_chn ok hg) cl ⟨a, ha, Aa⟩
end G81
end
section
set_option linter.all false
set_option maxHeartbeats 2000000
namespace G81
open PySem PySem.Spec L2
section
variable {Γ : Str → Option FD} {gl : Str → Option D}
end
end G81
end
section
set_option linter.all false
set_option maxHeartbeats 2000000
namespace G81
open PySem PySem.Spec L2
def rowsK (S : List M) : List (Key × D) := S.map fun m => ((Sum.inr m.n : Key), mD m)
theorem rowsK_keys (S : List M) : (rowsK S).map (fun kv => kv.1) = (S.map M.n).map fun x => (Sum.inr x : Key) := by
  unfold rowsK
  rw [List.map_map, List.map_map]
  rfl
theorem rowsK_nd {S : List M} (nd : (S.map M.n).Nodup) : ((rowsK S).map fun kv => kv.1).Nodup := by
  rw [rowsK_keys]
  exact List.pairwise_map.mpr (nd.imp fun q e => q (Sum.inr.inj e))
theorem rowsK_val {S : List M} (nd : (S.map M.n).Nodup) {m : M} (h : m ∈ S) : valD (rowsK S) (.inr m.n) = some (mD m) :=
  valD_mem (rowsK_nd nd) (kv := ((Sum.inr m.n : Key), mD m)) (List.mem_map.mpr ⟨m, h, rfl⟩)
theorem rowsK_pairs : ∀ S : List M, pairs? (S.map fun m => D.tup [.str m.n, mD m]) = some (rowsK S)
  | [] => rfl
  | m :: r => by
    rw [List.map_cons, pairs?, rowsK_pairs r]
    rfl
theorem rowsK_dict {S : List M} (nd : (S.map M.n).Nodup) : dictEv [.lst (S.map fun m => D.tup [.str m.n, mD m])] = .ok (.fd (rowsK S)) := by
  have e : mergeD [] (rowsK S) = rowsK S := mergeD_app (rowsK S) [] (by rw [List.nil_append]; exact rowsK_nd nd)
  simp only [dictEv]
  rw [rowsK_pairs, of_some, rmap_ok, e]
section
variable {Γ : Str → Option FD} {gl : Str → Option D}
end
end G81
end
section
set_option linter.all false
set_option maxHeartbeats 2000000
namespace G81
open PySem PySem.Spec L2
theorem inj14 {S : List M} (nd : (S.map M.n).Nodup) {a b : M} (ha : a ∈ S) (hb : b ∈ S) (e : a.n = b.n) : a = b := by
  have h1 := find_name nd ha
  have h2 := find_name nd hb
  rw [e, h2] at h1
  exact (Option.some.inj h1).symm
theorem grp_uniq {S : List M} (nd : (S.map M.n).Nodup) {g h : List M} (hg : g ∈ gOf S) (hh : h ∈ gOf S) {m : M} (mg : m ∈ g) (mh : m ∈ h) : g = h := by
  obtain ⟨i, hi⟩ := List.mem_iff_getElem?.mp hg
  obtain ⟨j, hj⟩ := List.mem_iff_getElem?.mp hh
  obtain ⟨i1, i2⟩ := List.getElem?_eq_some_iff.mp hi
  obtain ⟨j1, j2⟩ := List.getElem?_eq_some_iff.mp hj
  have ndf : (gOf S).flatten.Nodup := by
    rw [show (gOf S).flatten = orderL S from (gi_of S).flat]
    exact (orderL_perm S).nodup_iff.mpr ((List.pairwise_map.mp nd).imp fun q e => q (by rw [e]))
  have dj := List.pairwise_iff_getElem.mp (List.pairwise_flatten.mp ndf).2
  rcases Nat.lt_trichotomy i j with q | q | q
  · exact absurd rfl (dj i j i1 j1 q m (by rw [i2]; exact mg) m (by rw [j2]; exact mh))
  · subst q
    rw [← i2, j2]
  · exact absurd rfl (dj j i j1 i1 q m (by rw [j2]; exact mh) m (by rw [i2]; exact mg))
/-- one meeting seen from o -/
def bStep (o : M) (F : List Str) (m : M) : List Str := if m.n ∉ F ∧ ov m o = true then F ++ [m.n] else F
theorem bSteps_pre (o : M) : ∀ (l : List M) (F : List Str), ∃ r, l.foldl (bStep o) F = F ++ r
  | [], F => ⟨[], (List.append_nil F).symm⟩
  | m :: l, F => by
    obtain ⟨r, e⟩ := bSteps_pre o l (bStep o F m)
    rw [List.foldl_cons, e]
    unfold bStep
    split
    · exact ⟨[m.n] ++ r, by rw [List.append_assoc]⟩
    · exact ⟨r, rfl⟩
theorem bSteps_all (o : M) : ∀ (l : List M) (F : List Str), ∀ m ∈ l, ov m o = true → m.n ∈ l.foldl (bStep o) F
  | m :: l, F, x, hx, h => by
    rw [List.foldl_cons]
    rcases List.mem_cons.mp hx with rfl | hx
    · obtain ⟨r, e⟩ := bSteps_pre o l (bStep o F x)
      rw [e]
      refine List.mem_append_left _ ?_
      unfold bStep
      split
      · exact List.mem_append_right _ (List.mem_singleton_self _)
      · rename_i c
        by_cases z : x.n ∈ F
        · exact z
        · exact absurd ⟨z, h⟩ c
    · exact bSteps_all o l _ x hx h
/-- what a law's group keeps on its way -/
structure BI (g : List M) (x : Str) (F : List Str) : Prop where
  nd : F.Nodup
  one : x ∈ F
  sub : ∀ y ∈ F, ∃ a ∈ g, a.n = y
theorem bStep_ok {S g : List M} (hg : g ∈ gOf S) {x : Str} {o : M} (ho : o ∈ g) {F : List Str} (h : BI g x F) {m : M} (hm : m ∈ S) : BI g x (bStep o F m) := by
  unfold bStep
  split
  · rename_i c
    refine ⟨?_, List.mem_append_left _ h.one, fun y hy => ?_⟩
    · rw [List.nodup_append]
      refine ⟨h.nd, List.nodup_cons.mpr ⟨List.not_mem_nil, List.nodup_nil⟩, fun a ha b hb e => ?_⟩
      rw [List.mem_singleton.mp hb] at e
      exact c.1 (e ▸ ha)
    · rcases List.mem_append.mp hy with hy | hy
      · exact h.sub y hy
      · rw [List.mem_singleton.mp hy]
        exact ⟨m, grp_ov hg ho hm (by rw [ov_sym]; exact c.2), rfl⟩
  · exact h
theorem bSteps_ok {S g : List M} (hg : g ∈ gOf S) {x : Str} {o : M} (ho : o ∈ g) : ∀ (l : List M) {F : List Str}, BI g x F → (∀ m ∈ l, m ∈ S) → BI g x (l.foldl (bStep o) F)
  | [], F, h, _ => h
  | m :: l, F, h, s => bSteps_ok hg ho l (bStep_ok hg ho h (s m List.mem_cons_self)) fun y hy => s y (List.mem_cons_of_mem _ hy)
theorem BI.le {g : List M} {x : Str} {F : List Str} (h : BI g x F) : F.length ≤ g.length := by
  have := nodup_sub_le (m := g.map M.n) h.nd fun y hy => by
    obtain ⟨a, ha, e⟩ := h.sub y hy
    exact List.mem_map.mpr ⟨a, ha, e⟩
  rw [List.length_map] at this
  exact this
/-- all that hangs together is found -/
theorem bi_end {S g : List M} (nd : (S.map M.n).Nodup) (ok : ∀ m ∈ S, 0 ≤ m.b ∧ m.b < m.e) (hg : g ∈ gOf S) {m : M} (hm : m ∈ g) {F : List Str} (h : BI g m.n F) (cl : ∀ a ∈ g, a.n ∈ F → ∀ o ∈ S, ov o a = true → o.n ∈ F) : F.mergeSort leS = sortN g := by
  have all := grp_all ok hg (fun a => a.n ∈ F) (fun a ha b hb e i => cl a ha i b (grp_sub hg b hb) (by rw [ov_sym]; exact e)) hm h.one
  have ng : (g.map M.n).Nodup := by
    have e : (gOf S).flatten = orderL S := (gi_of S).flat
    have s : g.Sublist (orderL S) := by
      rw [← e]
      exact List.sublist_flatten_of_mem hg
    exact (s.map M.n).nodup (((orderL_perm S).map M.n).nodup_iff.mpr nd)
  have p : F.Perm (g.map M.n) := (List.perm_ext_iff_of_nodup h.nd ng).mpr fun y => ⟨fun hy => by
    obtain ⟨a, ha, e⟩ := h.sub y hy
    exact List.mem_map.mpr ⟨a, ha, e⟩, fun hy => by
    obtain ⟨a, ha, rfl⟩ := List.mem_map.mp hy
    exact all a ha⟩
  unfold sortN
  refine List.Perm.eq_of_pairwise (le := fun a b => leS a b = true) (fun a b _ _ h1 h2 => leS_anti h1 h2) (List.pairwise_mergeSort leS_tr leS_tot _) (List.pairwise_mergeSort leS_tr leS_tot _) ?_
  exact (List.mergeSort_perm _ _).trans (p.trans (List.mergeSort_perm _ _).symm)
/-- a body that goes on -/
def IsNx (P : En → Prop) (f : Fl) : Prop := ∃ ρ, f = .nx ρ ∧ P ρ
section
variable {Γ : Str → Option FD} {gl : Str → Option D}
theorem b_turn (v1 : Γ "_law_over" = some fd__law_over) (n : Nat) {S g : List M} (hS : S.length ≤ 100) (nd : (S.map M.n).Nodup) (ok : ∀ m ∈ S, 0 ≤ m.b ∧ m.b < m.e) (hg : g ∈ gOf S) {x : Str} {o : M} (ho : o ∈ g) {F : List Str} (h : BI g x F) {k : Nat} (hk : F[k]? = some o.n) (a1 x5 : Sl) :
    ∃ y5, evSs (run Γ gl (n + 1)) gl x__law_group_4 [.v (shD S), a1, .ol (F.map .str), .v (.int k), .v (.dic (rowsK S)), x5] = .nx [.v (shD S), a1, .ol ((S.foldl (bStep o) F).map .str), .v (.int (k + 1)), .v (.dic (rowsK S)), y5] := by
  have hz : SIZE = 1000000 := rfl
  have go : IsNx (fun ρ => ∃ y5, ρ = [.v (shD S), a1, .ol ((S.foldl (bStep o) F).map .str), .v (.int (k + 1)), .v (.dic (rowsK S)), y5]) (evSs (run Γ gl (n + 1)) gl x__law_group_4 [.v (shD S), a1, .ol (F.map .str), .v (.int k), .v (.dic (rowsK S)), x5]) := by
    unfold x__law_group_4
    refine q_for (enc := mD) S rfl (fun pre ρ => ∃ y5, ρ = [.v (shD S), a1, .ol ((pre.foldl (bStep o) F).map .str), .v (.int k), .v (.dic (rowsK S)), y5]) ⟨x5, rfl⟩ (fun pre m post e ρ i => ?_) fun ρ i => ?_
    · obtain ⟨y5, rfl⟩ := i
      refine ⟨_, rfl, ?_⟩
      have hm : m ∈ S := by rw [e]; simp
      have hp : ∀ z ∈ pre, z ∈ S := fun z hz => by rw [e]; exact List.mem_append_left _ hz
      have hI := bSteps_ok hg ho pre h hp
      obtain ⟨r, er⟩ := bSteps_pre o pre F
      have hat : (pre.foldl (bStep o) F)[k]? = some o.n := by
        rw [er]
        obtain ⟨k1, k2⟩ := List.getElem?_eq_some_iff.mp hk
        rw [List.getElem?_append_left k1]
        exact hk
      rw [List.foldl_append]
      generalize hF : pre.foldl (bStep o) F = F1 at *
      have hle := hI.le
      have hgl : g.length ≤ 100 := by
        have e1 : (gOf S).flatten = orderL S := (gi_of S).flat
        have e2 := (List.sublist_flatten_of_mem hg).length_le
        rw [e1, (orderL_perm S).length_eq] at e2
        omega
      have ia : ixEv (.lst (F1.map .str)) (.int k) = .ok (.str o.n) := by
        rw [ix_lst, atI_nn _ (by omega), Int.toNat_natCast, List.getElem?_map, hat]
        rfl
      have ir : ixEv (.dic (rowsK S)) (.str o.n) = .ok (mD o) := by
        simp only [ixEv, key?, of_some, bind_ok, rowsK_val nd (grp_sub hg o ho)]
      have im : inR (.str m.n) (F1.map .str) = .ok (decide (m.n ∈ F1)) := good_str.inR _ _
      have vo := r_over (gl := gl) v1 n m o
      rw [lo_ov (ok m hm).2 (ok o (grp_sub hg o ho)).2] at vo
      show Nxt _ _ _ (evSs (run Γ gl (n + 1)) gl x__law_group_3 [.v (shD S), a1, .ol (F1.map .str), .v (.int k), .v (.dic (rowsK S)), .v (mD m)])
      have cond : tru (evW (run Γ gl (n + 1)) gl (.and (.cmp .NotIn (.ix (.var 5) (.k (.int 0))) (.var 2)) (.call "_law_over" (.cons (.var 5) (.cons (.ix (.var 4) (.ix (.var 2) (.var 3))) .nil)))) [.v (shD S), a1, .ol (F1.map .str), .v (.int k), .v (.dic (rowsK S)), .v (mD m)]) = .ok (!decide (m.n ∈ F1) && ov m o) := by
        by_cases z : m.n ∈ F1
        · rw [decide_eq_true z] at im ⊢
          simp only [EVb, EVc, evW.eq_27, evW.eq_28, compfEv, rdF, compkEv, popdOwn, evVs, evBs, evT, evO, evIt, rdB, rdV, List.getD_cons_zero, List.getD_cons_succ, List.set_cons_zero, List.set_cons_succ, biEv, intEv, absEv, tupleEv, eq_self, decide_true, decide_false, if_true, if_false, appOwn, extOwn, ix_mD0, im, notR_ok, Bool.not_true, Bool.false_and, Bool.false_eq_true]
        · rw [decide_eq_false z] at im ⊢
          simp only [EVb, EVc, evW.eq_27, evW.eq_28, compfEv, rdF, compkEv, popdOwn, evVs, evBs, evT, evO, evIt, rdB, rdV, List.getD_cons_zero, List.getD_cons_succ, List.set_cons_zero, List.set_cons_succ, biEv, intEv, absEv, tupleEv, eq_self, decide_true, decide_false, if_true, if_false, appOwn, extOwn, ix_mD0, im, notR_ok, ia, ir, vo, Bool.not_false, Bool.true_and]
      by_cases c : m.n ∉ F1 ∧ ov m o = true
      · have ec : (!decide (m.n ∈ F1) && ov m o) = true := by rw [decide_eq_false c.1, c.2]; rfl
        rw [ec] at cond
        have hlt : (F1.map D.str).length < SIZE := by rw [List.length_map]; omega
        have eb : evSs (run Γ gl (n + 1)) gl x__law_group_3 [.v (shD S), a1, .ol (F1.map .str), .v (.int k), .v (.dic (rowsK S)), .v (mD m)] = .nx [.v (shD S), a1, .ol ((F1 ++ [m.n]).map .str), .v (.int k), .v (.dic (rowsK S)), .v (mD m)] := by
          unfold x__law_group_3
          rw [evSs, evS, cond, outR_ok, List.map_append]
          simp only [evSs, EVb, EVc, evW.eq_27, evW.eq_28, compfEv, rdF, compkEv, popdOwn, evVs, evBs, evT, evO, evIt, rdB, rdV, List.getD_cons_zero, List.getD_cons_succ, List.set_cons_zero, List.set_cons_succ, biEv, intEv, absEv, tupleEv, eq_self, decide_true, decide_false, if_true, if_false, appOwn, extOwn, ix_mD0, hlt]
          rfl
        rw [eb]
        refine ⟨.v (mD m), ?_⟩
        rw [List.foldl_cons, List.foldl_nil]
        unfold bStep
        rw [if_pos c]
      · have ec : (!decide (m.n ∈ F1) && ov m o) = false := by
          by_cases z : m.n ∈ F1
          · rw [decide_eq_true z]; rfl
          · cases w : ov m o with
            | false => rw [Bool.and_false]
            | true => exact absurd ⟨z, w⟩ c
        rw [ec] at cond
        have eb : evSs (run Γ gl (n + 1)) gl x__law_group_3 [.v (shD S), a1, .ol (F1.map .str), .v (.int k), .v (.dic (rowsK S)), .v (mD m)] = .nx [.v (shD S), a1, .ol (F1.map .str), .v (.int k), .v (.dic (rowsK S)), .v (mD m)] := by
          unfold x__law_group_3
          rw [evSs, evS, cond, outR_ok]
          simp only [evSs, EVb, EVc, evW.eq_27, evW.eq_28, compfEv, rdF, compkEv, popdOwn, evVs, evBs, evT, evO, evIt, rdB, rdV, List.getD_cons_zero, List.getD_cons_succ, List.set_cons_zero, List.set_cons_succ, biEv, intEv, absEv, tupleEv, eq_self, decide_true, decide_false, if_true, if_false, appOwn, extOwn]
        rw [eb]
        refine ⟨.v (mD m), ?_⟩
        rw [List.foldl_cons, List.foldl_nil]
        unfold bStep
        rw [if_neg c]
    · obtain ⟨y5, rfl⟩ := i
      exact ⟨_, by simp only [evSs, EVb, EVc, evW.eq_27, evW.eq_28, compfEv, rdF, compkEv, popdOwn, evVs, evBs, evT, evO, evIt, rdB, rdV, List.getD_cons_zero, List.getD_cons_succ, List.set_cons_zero, List.set_cons_succ, biEv, intEv, absEv, tupleEv, eq_self, decide_true, decide_false, if_true, if_false, appOwn, extOwn], y5, rfl⟩
  obtain ⟨ρ, e, y5, rfl⟩ := go
  exact ⟨y5, e⟩
/-- the whole way -/
theorem b_while (v1 : Γ "_law_over" = some fd__law_over) (n : Nat) {S g : List M} (hS : S.length ≤ 100) (nd : (S.map M.n).Nodup) (ok : ∀ m ∈ S, 0 ≤ m.b ∧ m.b < m.e) (hg : g ∈ gOf S) {x : Str} (a1 : Sl) : ∀ (N k : Nat) (F : List Str) (x5 : Sl), g.length < k + N → k ≤ F.length → BI g x F →
    (∀ i, i < k → ∀ a ∈ g, F[i]? = some a.n → ∀ o ∈ S, ov a o = true → o.n ∈ F) → ∃ F' k' y5, BI g x F' ∧ (∀ a ∈ g, a.n ∈ F' → ∀ o ∈ S, ov a o = true → o.n ∈ F') ∧
      whL (fun ρ1 => tru (evW (run Γ gl (n + 1)) gl x__law_group_2 ρ1)) (fun ρ1 => evSs (run Γ gl (n + 1)) gl x__law_group_4 ρ1) N [.v (shD S), a1, .ol (F.map .str), .v (.int (k : Nat)), .v (.dic (rowsK S)), x5] = .nx [.v (shD S), a1, .ol (F'.map .str), .v (.int (k' : Nat)), .v (.dic (rowsK S)), y5]
  | 0, k, F, x5, hN, hk, h, _ => by
    have := h.le
    omega
  | N + 1, k, F, x5, hN, hk, h, cl => by
    have ht : tru (evW (run Γ gl (n + 1)) gl x__law_group_2 [.v (shD S), a1, .ol (F.map .str), .v (.int (k : Nat)), .v (.dic (rowsK S)), x5]) = .ok (decide (k < F.length)) := by
      simp only [x__law_group_2, EVb, EVc, evW.eq_27, evW.eq_28, compfEv, rdF, compkEv, popdOwn, evVs, evBs, evT, evO, evIt, rdB, rdV, List.getD_cons_zero, List.getD_cons_succ, List.set_cons_zero, List.set_cons_succ, biEv, intEv, absEv, tupleEv, eq_self, decide_true, decide_false, if_true, if_false, appOwn, extOwn, List.length_map]
      congr 1
      exact decide_eq_decide.mpr (by omega)
    by_cases c : k < F.length
    · rw [decide_eq_true c] at ht
      have hk2 : F[k]? = some F[k] := List.getElem?_eq_getElem c
      obtain ⟨o, ho, eo⟩ := h.sub F[k] (List.getElem_mem c)
      rw [← eo] at hk2
      obtain ⟨y5, eb⟩ := b_turn (gl := gl) v1 n hS nd ok hg ho h hk2 a1 x5
      obtain ⟨r, er⟩ := bSteps_pre o S F
      have h2 := bSteps_ok hg ho S h fun _ z => z
      have all := bSteps_all o S F
      generalize S.foldl (bStep o) F = F2 at *
      have hl2 : F.length ≤ F2.length := by rw [er, List.length_append]; omega
      obtain ⟨F', k', z5, q1, q2, q3⟩ := b_while v1 n hS nd ok hg a1 N (k + 1) F2 y5 (by omega) (by omega) h2 fun i hi a ha ea p hp v => by
        rcases Nat.lt_succ_iff_lt_or_eq.mp hi with hi | hi
        · have ea2 : F[i]? = some a.n := by
            rw [er, List.getElem?_append_left (by omega)] at ea
            exact ea
          rw [er]
          exact List.mem_append_left _ (cl i hi a ha ea2 p hp v)
        · subst hi
          have ea2 : F[i]? = some a.n := by
            rw [er, List.getElem?_append_left (by omega)] at ea
            exact ea
          have e3 : o.n = a.n := by
            rw [hk2] at ea2
            exact Option.some.inj ea2
          have : o = a := inj14 nd (grp_sub hg o ho) (grp_sub hg a ha) e3
          subst this
          exact all p hp (by rw [ov_sym]; exact v)
      refine ⟨F', k', z5, q1, q2, ?_⟩
      rw [whL, ht]
      dsimp only
      rw [eb]
      exact q3
    · rw [decide_eq_false c] at ht
      refine ⟨F, k, x5, h, fun a ha ea o ho v => ?_, by rw [whL, ht]⟩
      obtain ⟨i, hi⟩ := List.mem_iff_getElem?.mp ea
      have := (List.getElem?_eq_some_iff.mp hi).1
      exact cl i (by omega) a ha hi o ho v
theorem r_lgroup (v1 : Γ "_law_over" = some fd__law_over) (v2 : Γ "_law_group" = some fd__law_group) (n : Nat) {S g : List M} (hS : S.length ≤ 100) (nd : (S.map M.n).Nodup) (ok : ∀ m ∈ S, 0 ≤ m.b ∧ m.b < m.e) (hg : g ∈ gOf S) {m : M} (hm : m ∈ g) :
    run Γ gl (n + 2) "_law_group" [shD S, .str m.n] = .ok (.fl ((sortN g).map .str)) := by
  rw [go__law_group v2]
  refine of_ends ?_
  unfold c__law_group
  have hz : SIZE = 1000000 := rfl
  have hgl : g.length ≤ 100 := by
    have e1 : (gOf S).flatten = orderL S := (gi_of S).flat
    have e2 := (List.sublist_flatten_of_mem hg).length_le
    rw [e1, (orderL_perm S).length_eq] at e2
    omega
  have hc := ev_compA (cl := run Γ gl (n + 1)) (gl := gl) (elt := x__law_group_1) (g := .one 5) (it := .seq (.var 0)) (own := [5]) (ρ := [.v (shD S), .v (.str m.n), .ol [.str m.n], .v (.int 0), .no, .no]) (b := false) (fun m => D.tup [.str m.n, mD m]) mD S rfl (by omega) fun m _ => ⟨_, rfl, by
    simp only [x__law_group_1, EVb, EVc, evW.eq_27, evW.eq_28, compfEv, rdF, compkEv, popdOwn, evVs, evBs, evT, evO, evIt, rdB, rdV, List.getD_cons_zero, List.getD_cons_succ, List.set_cons_zero, List.set_cons_succ, biEv, intEv, absEv, tupleEv, eq_self, decide_true, decide_false, if_true, if_false, appOwn, extOwn, wipeE, ix_mD0]⟩
  have hd := rowsK_dict nd
  refine q_nx (ρ1 := [.v (shD S), .v (.str m.n), .ol [.str m.n], .no, .no, .no]) (by simp only [EVb, EVc, evW.eq_27, evW.eq_28, compfEv, rdF, compkEv, popdOwn, evVs, evBs, evT, evO, evIt, rdB, rdV, List.getD_cons_zero, List.getD_cons_succ, List.set_cons_zero, List.set_cons_succ, biEv, intEv, absEv, tupleEv, eq_self, decide_true, decide_false, if_true, if_false, appOwn, extOwn]) ?_
  refine q_nx (ρ1 := [.v (shD S), .v (.str m.n), .ol [.str m.n], .v (.int 0), .no, .no]) (by simp only [EVb, EVc, evW.eq_27, evW.eq_28, compfEv, rdF, compkEv, popdOwn, evVs, evBs, evT, evO, evIt, rdB, rdV, List.getD_cons_zero, List.getD_cons_succ, List.set_cons_zero, List.set_cons_succ, biEv, intEv, absEv, tupleEv, eq_self, decide_true, decide_false, if_true, if_false, appOwn, extOwn]) ?_
  refine q_nx (ρ1 := [.v (shD S), .v (.str m.n), .ol [.str m.n], .v (.int 0), .v (.dic (rowsK S)), .no]) (by
    simp only [EVb, EVc, evW.eq_27, evW.eq_28, compfEv, rdF, compkEv, popdOwn, evVs, evBs, evT, evO, evIt, rdB, rdV, List.getD_cons_zero, List.getD_cons_succ, List.set_cons_zero, List.set_cons_succ, biEv, intEv, absEv, tupleEv, eq_self, decide_true, decide_false, if_true, if_false, appOwn, extOwn, hc, hd]
    rfl) ?_
  have h0 : BI g m.n [m.n] := ⟨List.nodup_cons.mpr ⟨List.not_mem_nil, List.nodup_nil⟩, List.mem_singleton_self _, fun y hy => ⟨m, hm, (List.mem_singleton.mp hy).symm⟩⟩
  obtain ⟨F, k, y5, q1, q2, q3⟩ := b_while (gl := gl) v1 n hS nd ok hg (.v (.str m.n)) TURNS 0 [m.n] .no (by show g.length < 0 + 1000; omega) (Nat.zero_le _) h0 fun i hi => absurd hi (Nat.not_lt_zero _)
  have e := bi_end nd ok hg hm q1 fun a ha ea o ho v => q2 a ha ea o ho (by rw [ov_sym]; exact v)
  have so := sorted_strs2 (l := F) (by have := q1.le; omega)
  rw [e] at so
  have q4 : evS (run Γ gl (n + 1)) gl (.while x__law_group_2 x__law_group_4) [.v (shD S), .v (.str m.n), .ol [.str m.n], .v (.int 0), .v (.dic (rowsK S)), .no] = .nx [.v (shD S), .v (.str m.n), .ol (F.map .str), .v (.int (k : Nat)), .v (.dic (rowsK S)), y5] := q3
  refine q_nx q4 ?_
  simp only [evSs, EVb, EVc, evW.eq_27, evW.eq_28, compfEv, rdF, compkEv, popdOwn, evVs, evBs, evT, evO, evIt, rdB, rdV, List.getD_cons_zero, List.getD_cons_succ, List.set_cons_zero, List.set_cons_succ, biEv, intEv, absEv, tupleEv, eq_self, decide_true, decide_false, if_true, if_false, appOwn, extOwn, so]
end
end G81
end
section
set_option linter.all false
set_option maxHeartbeats 2000000
namespace G81
open PySem PySem.Spec L2
def dStep (f : M → List Str) (P : List (List Str)) (m : M) : List (List Str) := if f m ∈ P then P else P ++ [f m]
theorem same_fold (f : M → List Str) (v : List Str) : ∀ (L : List M) (P : List (List Str)), (∀ m ∈ L, f m = v) → v ∈ P → L.foldl (dStep f) P = P
  | [], P, _, _ => rfl
  | m :: r, P, h, hv => by
    rw [List.foldl_cons]
    have e : dStep f P m = P := by
      unfold dStep
      rw [h m List.mem_cons_self, if_pos hv]
    rw [e]
    exact same_fold f v r P (fun x hx => h x (List.mem_cons_of_mem _ hx)) hv
theorem cut_by (p : M → Bool) : ∀ (L : List M), L.Pairwise (fun a b => a.b ≤ b.b) → (∀ a ∈ L, ∀ b ∈ L, p a = true → p b = false → a.b < b.b) → L = L.filter p ++ L.filter fun m => !p m
  | [], _, _ => rfl
  | a :: l, h, q => by
    have h1 := List.pairwise_cons.mp h
    have ih := cut_by p l h1.2 fun x hx y hy => q x (List.mem_cons_of_mem _ hx) y (List.mem_cons_of_mem _ hy)
    cases e : p a with
    | true =>
      rw [List.filter_cons, List.filter_cons, e]
      simp only [if_true, Bool.not_true, Bool.false_eq_true, if_false, List.cons_append]
      exact congrArg (a :: ·) ih
    | false =>
      have n0 : l.filter p = [] := by
        rw [List.filter_eq_nil_iff]
        intro b hb pb
        have := q b (List.mem_cons_of_mem _ hb) a List.mem_cons_self pb e
        have := h1.1 b hb
        omega
      rw [n0, List.nil_append] at ih
      rw [List.filter_cons, List.filter_cons, e, n0]
      simp only [Bool.false_eq_true, if_false, Bool.not_false, if_true, List.nil_append]
      exact congrArg (a :: ·) ih
theorem due_gs (f : M → List Str) : ∀ (gs : List (List M)) (L : List M) (P : List (List Str)), (∀ g ∈ gs, g ≠ []) → (gs.Pairwise fun x y => ∀ a ∈ x, ∀ b ∈ y, a.b < b.b) → L.Pairwise (fun a b => a.b ≤ b.b) → (∀ m ∈ L, ∃ g ∈ gs, m ∈ g) → (∀ g ∈ gs, ∀ m ∈ g, m ∈ L) →
    (∀ g ∈ gs, ∀ m ∈ g, f m = sortN g) → (∀ g ∈ gs, sortN g ∉ P) → (gs.map sortN).Nodup → L.foldl (dStep f) P = P ++ gs.map sortN
  | [], L, P, _, _, _, hL, _, _, _, _ => by
    have : L = [] := by
      cases L with
      | nil => rfl
      | cons a r =>
        obtain ⟨g, hg, _⟩ := hL a List.mem_cons_self
        cases hg
    subst this
    rw [List.map_nil, List.append_nil]
    rfl
  | g :: gs, L, P, ne, ap, so, hL, hG, hf, hP, nd => by
    have ap1 := List.pairwise_cons.mp ap
    rw [List.map_cons, List.nodup_cons] at nd
    have cut := cut_by (fun m => decide (m ∈ g)) L so fun a ha b hb pa pb => by
      obtain ⟨h, hh, bh⟩ := hL b hb
      rcases List.mem_cons.mp hh with rfl | hh
      · exact absurd bh (of_decide_eq_false pb)
      · exact ap1.1 h hh a (of_decide_eq_true pa) b bh
    rw [cut, List.foldl_append]
    have e1 : (L.filter fun m => decide (m ∈ g)).foldl (dStep f) P = P ++ [sortN g] := by
      have hall : ∀ m ∈ L.filter (fun m => decide (m ∈ g)), f m = sortN g := fun m hm => hf g List.mem_cons_self m (of_decide_eq_true (List.mem_filter.mp hm).2)
      cases q : L.filter fun m => decide (m ∈ g) with
      | nil =>
        exfalso
        obtain ⟨a, ha⟩ := List.exists_mem_of_ne_nil g (ne g List.mem_cons_self)
        have : a ∈ L.filter fun m => decide (m ∈ g) := List.mem_filter.mpr ⟨hG g List.mem_cons_self a ha, decide_eq_true ha⟩
        rw [q] at this
        cases this
      | cons a r =>
        rw [q] at hall
        rw [List.foldl_cons]
        have e : dStep f P a = P ++ [sortN g] := by
          unfold dStep
          rw [hall a List.mem_cons_self, if_neg (hP g List.mem_cons_self)]
        rw [e]
        exact same_fold f (sortN g) r _ (fun x hx => hall x (List.mem_cons_of_mem _ hx)) (List.mem_append_right _ (List.mem_singleton_self _))
    rw [e1, due_gs f gs _ (P ++ [sortN g]) (fun x hx => ne x (List.mem_cons_of_mem _ hx)) ap1.2 (so.sublist List.filter_sublist) (fun m hm => ?_) (fun h hh m hm => ?_) (fun h hh => hf h (List.mem_cons_of_mem _ hh)) (fun h hh z => ?_) nd.2, List.append_assoc]
    · rfl
    · obtain ⟨m1, m2⟩ := List.mem_filter.mp hm
      obtain ⟨h, hh, mh⟩ := hL m m1
      rcases List.mem_cons.mp hh with rfl | hh
      · rw [decide_eq_true mh] at m2
        cases m2
      · exact ⟨h, hh, mh⟩
    · refine List.mem_filter.mpr ⟨hG h (List.mem_cons_of_mem _ hh) m hm, ?_⟩
      rw [decide_eq_false fun mg => ?_]
      · rfl
      · have := ap1.1 h hh m mg m hm
        omega
    · rcases List.mem_append.mp z with z | z
      · exact hP h (List.mem_cons_of_mem _ hh) z
      · exact nd.1 (by rw [← List.mem_singleton.mp z]; exact List.mem_map_of_mem hh)
/-- the group's names of one -/
def grN (S : List M) (m : M) : List Str := match (gOf S).find? fun g => decide (m ∈ g) with
  | some g => sortN g
  | none => []
theorem grN_of {S : List M} (nd : (S.map M.n).Nodup) {g : List M} (hg : g ∈ gOf S) {m : M} (hm : m ∈ g) : grN S m = sortN g := by
  unfold grN
  cases h : (gOf S).find? fun g => decide (m ∈ g) with
  | none => exact absurd (decide_eq_true hm) (by simpa using List.find?_eq_none.mp h g hg)
  | some g' => rw [grp_uniq nd (List.mem_of_find?_eq_some h) hg (of_decide_eq_true (by simpa using List.find?_some h)) hm]
def byB (S : List M) : List M := S.mergeSort fun a b => decide (a.b ≤ b.b)
theorem byB_perm (S : List M) : (byB S).Perm S := List.mergeSort_perm S _
theorem byB_up (S : List M) : (byB S).Pairwise fun a b => a.b ≤ b.b :=
  (List.pairwise_mergeSort (le := fun a b : M => decide (a.b ≤ b.b)) (fun a b c h1 h2 => decide_eq_true (by have := of_decide_eq_true h1; have := of_decide_eq_true h2; omega)) (fun a b => by
    by_cases c : a.b ≤ b.b
    · rw [decide_eq_true c]; rfl
    · rw [Bool.or_eq_true, decide_eq_true_iff, decide_eq_true_iff]; omega) S).imp fun h => of_decide_eq_true h
theorem due_all {S : List M} (nd : (S.map M.n).Nodup) (ok : ∀ m ∈ S, m.b < m.e) : (byB S).foldl (dStep (grN S)) [] = (gOf S).map sortN := by
  have ap : (gOf S).Pairwise fun x y => ∀ a ∈ x, ∀ b ∈ y, a.e ≤ b.b := (gi_of S).apart
  have ne : ∀ g ∈ gOf S, g ≠ [] := (gi_of S).ne
  have sub := fun g (hg : g ∈ gOf S) => grp_sub hg
  have ap2 : (gOf S).Pairwise fun x y => ∀ a ∈ x, ∀ b ∈ y, a.b < b.b := List.Pairwise.imp_of_mem (fun {x y} hx hy h a ha b hb => by
    have := h a ha b hb
    have := ok a (sub x hx a ha)
    omega) ap
  have := due_gs (grN S) (gOf S) (byB S) [] ne ap2 (byB_up S) (fun m hm => grp_mem ((byB_perm S).mem_iff.mp hm)) (fun g hg m hm => (byB_perm S).mem_iff.mpr (sub g hg m hm)) (fun g hg m hm => grN_of nd hg hm) (fun _ _ z => by cases z) (List.pairwise_map.mpr (List.Pairwise.imp_of_mem (fun {x y} hx hy h e => by
    obtain ⟨a, ha⟩ := List.exists_mem_of_ne_nil x (ne x hx)
    have : a.n ∈ sortN y := by
      rw [← e]
      exact mem_sortN.mpr (List.mem_map.mpr ⟨a, ha, rfl⟩)
    obtain ⟨b, hb, eb⟩ := List.mem_map.mp (mem_sortN.mp this)
    have := inj14 nd (sub y hy b hb) (sub x hx a ha) eb
    subst this
    have := h b ha b hb
    omega) ap2))
  rw [List.nil_append] at this
  exact this
theorem sk_sheet {S : List M} (hS : S.length ≤ 1000) : skEv (shD S) = .ok (.fl ((byB S).map mD)) := by
  have h1 : (S.map mD).length ≤ 1000 ∧ ((S.map mD).all fun d => (keyOf d).isSome) = true := ⟨by rw [List.length_map]; exact hS, by
    rw [List.all_eq_true]
    intro d hd
    obtain ⟨m, _, rfl⟩ := List.mem_map.mp hd
    rfl⟩
  show (if (S.map mD).length ≤ 1000 ∧ ((S.map mD).all fun d => (keyOf d).isSome) = true then R.ok (W.fl ((S.map mD).mergeSort leK)) else .stuck) = _
  rw [if_pos h1]
  unfold byB
  rw [List.map_mergeSort (r := fun a b : M => decide (a.b ≤ b.b)) (s := leK) (f := mD) fun a _ b _ => rfl]
end G81
end
section
set_option linter.all false
set_option maxHeartbeats 4000000
namespace G81
open PySem PySem.Spec L2
section
variable {cl cl' : Str → List D → R W} {gl : Str → Option D} {cs : List Str} {word : List D → R W}
theorem q2_nx {s : S2} {r : List S2} {ρ ρ1 : En} {v : R W} (h : evS2 cl cl' gl cs word s ρ = .nx ρ1) (k : Ends v (evSs2 cl cl' gl cs word r ρ1)) : Ends v (evSs2 cl cl' gl cs word (s :: r) ρ) := by
  rw [evSs2, h]
  exact k
theorem q2_s {s : S} {r : List S2} {ρ ρ1 : En} {v : R W} (h : evS cl gl s ρ = .nx ρ1) (k : Ends v (evSs2 cl cl' gl cs word r ρ1)) : Ends v (evSs2 cl cl' gl cs word (.s s :: r) ρ) := q2_nx h k
theorem q2_skip {t : C} {a : Ss} {r : List S2} {ρ : En} {v : R W} (h : tru (evW cl gl t ρ) = .ok false) (k : Ends v (evSs2 cl cl' gl cs word r ρ)) : Ends v (evSs2 cl cl' gl cs word (.s (.ife t a .nil) :: r) ρ) := by
  refine q2_s (ρ1 := ρ) ?_ k
  rw [evS, h]
  simp only [outR_ok, Bool.false_eq_true, if_false, evSs]
theorem q2_last {e : C} {r : List S2} {ρ : En} {v : R W} {d : D} (h : evSs cl gl (.cons (.ret e) .nil) ρ = .rt (.d d)) (hv : v = .ok (.d d)) : Ends v (evSs2 cl cl' gl cs word (.s (.ret e) :: r) ρ) := by
  have e2 : evS cl gl (.ret e) ρ = .rt (.d d) := by
    rw [evSs] at h
    revert h
    cases evS cl gl (.ret e) ρ <;> intro h <;> first | exact h | (simp [evSs] at h; done) | cases h
  rw [evSs2, show evS2 cl cl' gl cs word (.s (.ret e)) ρ = evS cl gl (.ret e) ρ from rfl, e2, hv]
  rfl
end
end G81
end
section
set_option linter.all false
set_option maxHeartbeats 4000000
namespace G81
open PySem PySem.Spec L2
def x_law_k10_1 : Ss := (.cons (.ife (.cmp .NotEq (.call "_law_told" (.cons (.var 1) (.cons (.ix (.var 3) (.k (.int 0))) .nil))) (.call "_law_group" (.cons (.var 1) (.cons
   (.ix (.var 3) (.k (.int 0))) .nil)))) (.cons (.ret (.k (.bl false))) .nil) .nil) .nil)
def c_law_k10 : List S2 := [.s (.asg (.one 1) (.call "_law_sheet" (.cons (.var 0) (.cons (.k (.int 0)) (.cons (.k (.int 10)) .nil))))),
  .s (.keep 2 (.lst .nil)),
  .forS (.one
   3) 1 (.cons (.asg (.one 4) (.call "_law_group" (.cons (.var 1) (.cons (.ix (.var 3) (.k (.int 0))) .nil)))) (.cons (.ife (.cmp .NotIn (.var 4)
   (.var 2)) (.cons (.app 2 (.var 4)) .nil) .nil) .nil)),
  .s (.ife (.cmp .NotEq (.call "groups" (.cons (.var 1) .nil)) (.var 2)) (.cons (.ret (.k
   (.bl false))) .nil) .nil),
  .s (.for (.one 3) (.seq (.var 1)) x_law_k10_1),
  .s (.ret (.cmp .Eq (.call "_law_told" (.cons (.var 1) (.cons (.k
   (.str "none")) .nil))) (.k (.str "no meeting"))))]
section
variable {Γ : Str → Option FD} {gl : Str → Option D}
theorem r_group_of (h1 : Γ "laying_order" = some fd_laying_order) (h2 : Γ "groups" = some fd_groups) (h3 : Γ "meeting_of" = some fd_meeting_of) (h4 : Γ "group_of" = some fd_group_of) (n : Nat) {S : List M} (nd : (S.map M.n).Nodup) (hS : S.length ≤ 100) {m : M} (hm : m ∈ S) :
    ∃ g ∈ gOf S, m ∈ g ∧ run Γ gl (n + 3) "group_of" [shD S, .str m.n] = .ok (.d (.lst ((sortN g).map .str))) := by
  have rm := r_meeting_of (gl := gl) h3 (n + 1) S m.n
  rw [find_name nd hm] at rm
  have rg := r_groups (gl := gl) h1 h2 n (S := S) (by omega)
  have gl2 : (gOf S).length ≤ 100 := by
    have : ∀ l : List (List M), (∀ x ∈ l, x ≠ []) → l.length ≤ l.flatten.length := by
      intro l
      induction l with
      | nil => exact fun _ => Nat.le_refl _
      | cons a r ih =>
        intro h
        have h1 := ih fun x hx => h x (List.mem_cons_of_mem _ hx)
        have h2 := List.length_pos_iff.mpr (h a List.mem_cons_self)
        rw [List.length_cons, List.flatten_cons, List.length_append]
        omega
    have h1 := this (gOf S) (gi_of S).ne
    have h2 : (gOf S).flatten = orderL S := (gi_of S).flat
    rw [h2, (orderL_perm S).length_eq] at h1
    omega
  have c := ev_comp (cl := run Γ gl (n + 2)) (gl := gl) (elt := x_group_of_1) (g := .one 2) (it := .seq (.call "groups" (.cons (.var 0) .nil))) (t := x_group_of_2) (own := [2]) (ρ := [.v (shD S), .v (.str m.n), .no]) (b := false) (fun g : List M => decide (m.n ∈ sortN g)) (fun g => D.lst ((sortN g).map .str)) (fun g => D.lst ((sortN g).map .str)) (gOf S) (by simp only [EVb, EVc, evW.eq_27, evW.eq_28, compfEv, rdF, compkEv, popdOwn, evVs, evBs, evT, evO, evIt, rdB, rdV, List.getD_cons_zero, List.getD_cons_succ, List.set_cons_zero, List.set_cons_succ, biEv, intEv, absEv, tupleEv, eq_self, decide_true, decide_false, if_true, if_false, appOwn, extOwn, rg]) (by simp only [SIZE]; omega) fun g _ => ⟨_, rfl, by
    simp only [x_group_of_2, EVb, EVc, evW.eq_27, evW.eq_28, compfEv, rdF, compkEv, popdOwn, evVs, evBs, evT, evO, evIt, rdB, rdV, List.getD_cons_zero, List.getD_cons_succ, List.set_cons_zero, List.set_cons_succ, biEv, intEv, absEv, tupleEv, eq_self, decide_true, decide_false, if_true, if_false, appOwn, extOwn, wipeE, good_str.inR], fun _ => by simp only [x_group_of_1, EVb, EVc, evW.eq_27, evW.eq_28, compfEv, rdF, compkEv, popdOwn, evVs, evBs, evT, evO, evIt, rdB, rdV, List.getD_cons_zero, List.getD_cons_succ, List.set_cons_zero, List.set_cons_succ, biEv, intEv, absEv, tupleEv, eq_self, decide_true, decide_false, if_true, if_false, appOwn, extOwn, wipeE]⟩
  obtain ⟨g0, hg0, mg0⟩ := grp_mem hm
  cases hf : (gOf S).filter fun g : List M => decide (m.n ∈ sortN g) with
  | nil =>
    exfalso
    rw [List.filter_eq_nil_iff] at hf
    exact hf g0 hg0 (decide_eq_true (mem_sortN.mpr (List.mem_map.mpr ⟨m, mg0, rfl⟩)))
  | cons g tl =>
    have hgf : g ∈ (gOf S).filter fun g : List M => decide (m.n ∈ sortN g) := by rw [hf]; simp
    have hg := (List.mem_filter.mp hgf).1
    have q := (List.mem_filter.mp hgf).2
    clear hgf
    obtain ⟨o, ho, eo⟩ := List.mem_map.mp (mem_sortN.mp (of_decide_eq_true q))
    have : o = m := inj14 nd (grp_sub hg o ho) hm eo
    subst this
    rw [hf, List.map_cons] at c
    generalize (tl.map fun g => D.lst ((sortN g).map .str)) = tl' at c
    have i0 : ixEv (.lst (D.lst ((sortN g).map .str) :: tl')) (.int 0) = .ok (.lst ((sortN g).map .str)) := by rw [ix_lst, atI_0]; rfl
    refine ⟨g, hg, ho, ?_⟩
    rw [go_group_of h4]
    refine of_ends ?_
    unfold c_group_of
    refine q_nx (ρ1 := [.v (shD S), .v (.str o.n), .no]) (by simp only [EVb, EVc, evW.eq_27, evW.eq_28, compfEv, rdF, compkEv, popdOwn, evVs, evBs, evT, evO, evIt, rdB, rdV, List.getD_cons_zero, List.getD_cons_succ, List.set_cons_zero, List.set_cons_succ, biEv, intEv, absEv, tupleEv, eq_self, decide_true, decide_false, if_true, if_false, appOwn, extOwn, rm]) ?_
    simp only [evSs, EVb, EVc, evW.eq_27, evW.eq_28, compfEv, rdF, compkEv, popdOwn, evVs, evBs, evT, evO, evIt, rdB, rdV, List.getD_cons_zero, List.getD_cons_succ, List.set_cons_zero, List.set_cons_succ, biEv, intEv, absEv, tupleEv, eq_self, decide_true, decide_false, if_true, if_false, appOwn, extOwn, c, i0]
theorem r_told10 (h1 : Γ "laying_order" = some fd_laying_order) (h2 : Γ "groups" = some fd_groups) (h3 : Γ "meeting_of" = some fd_meeting_of) (h4 : Γ "group_of" = some fd_group_of) (h5 : Γ "_law_told" = some fd__law_told_v1) (n : Nat) {S : List M} (nd : (S.map M.n).Nodup) (hS : S.length ≤ 100) {m : M} (hm : m ∈ S) :
    ∃ g ∈ gOf S, m ∈ g ∧ run Γ gl (n + 4) "_law_told" [shD S, .str m.n] = .ok (.d (.lst ((sortN g).map .str))) := by
  obtain ⟨g, hg, mg, r⟩ := r_group_of (gl := gl) h1 h2 h3 h4 n nd hS hm
  refine ⟨g, hg, mg, ?_⟩
  rw [go__law_told_v1 h5]
  refine of_ends ?_
  unfold c__law_told_v1
  refine q_nx (ρ1 := [.v (shD S), .v (.str m.n), .v .non, .no, .no]) (by simp only [EVb, EVc, evW.eq_27, evW.eq_28, compfEv, rdF, compkEv, popdOwn, evVs, evBs, evT, evO, evIt, rdB, rdV, List.getD_cons_zero, List.getD_cons_succ, List.set_cons_zero, List.set_cons_succ, biEv, intEv, absEv, tupleEv, eq_self, decide_true, decide_false, if_true, if_false, appOwn, extOwn]) ?_
  refine q_nx (ρ1 := [.v (shD S), .v (.str m.n), .v .non, .v .non, .no]) (by simp only [EVb, EVc, evW.eq_27, evW.eq_28, compfEv, rdF, compkEv, popdOwn, evVs, evBs, evT, evO, evIt, rdB, rdV, List.getD_cons_zero, List.getD_cons_succ, List.set_cons_zero, List.set_cons_succ, biEv, intEv, absEv, tupleEv, eq_self, decide_true, decide_false, if_true, if_false, appOwn, extOwn]) ?_
  have e : evS (run Γ gl (n + 3)) gl (.tryk 4 2 x__law_told_v1_1 ["NoMeeting", "Taken", "NoTime", "TooMany", "NoZone", "NoText"]) [.v (shD S), .v (.str m.n), .v .non, .v .non, .no] = .nx [.v (shD S), .v (.str m.n), .v .non, .v (.lst ((sortN g).map .str)), .no] := by
    simp only [x__law_told_v1_1, evSs, EVb, EVc, evW.eq_27, evW.eq_28, compfEv, rdF, compkEv, popdOwn, evVs, evBs, evT, evO, evIt, rdB, rdV, List.getD_cons_zero, List.getD_cons_succ, List.set_cons_zero, List.set_cons_succ, biEv, intEv, absEv, tupleEv, eq_self, decide_true, decide_false, if_true, if_false, appOwn, extOwn, r]
    rfl
  refine q_nx e ?_
  have en : isR .non .non = .ok true := rfl
  simp only [evSs, EVb, EVc, evW.eq_27, evW.eq_28, compfEv, rdF, compkEv, popdOwn, evVs, evBs, evT, evO, evIt, rdB, rdV, List.getD_cons_zero, List.getD_cons_succ, List.set_cons_zero, List.set_cons_succ, biEv, intEv, absEv, tupleEv, eq_self, decide_true, decide_false, if_true, if_false, appOwn, extOwn, en]
theorem r_told10_no (h3 : Γ "meeting_of" = some fd_meeting_of) (h4 : Γ "group_of" = some fd_group_of) (h5 : Γ "_law_told" = some fd__law_told_v1) (h6 : Γ "_law_word" = some fd__law_word) (n : Nat) {S : List M} {x : Str} (hx : ∀ m ∈ S, m.n ≠ x) :
    run Γ gl (n + 4) "_law_told" [shD S, .str x] = .ok (.d (.str "no meeting")) := by
  have rm := r_meeting_of (gl := gl) h3 (n + 1) S x
  rw [List.find?_eq_none.mpr fun m hm => by simpa using hx m hm] at rm
  have r : run Γ gl (n + 3) "group_of" [shD S, .str x] = .exc "NoMeeting" := by
    rw [go_group_of h4]
    refine of_ends ?_
    unfold c_group_of
    refine q_exc (c := "NoMeeting") (ρ1 := [.v (shD S), .v (.str x), .no]) (by simp only [EVb, EVc, evW.eq_27, evW.eq_28, compfEv, rdF, compkEv, popdOwn, evVs, evBs, evT, evO, evIt, rdB, rdV, List.getD_cons_zero, List.getD_cons_succ, List.set_cons_zero, List.set_cons_succ, biEv, intEv, absEv, tupleEv, eq_self, decide_true, decide_false, if_true, if_false, appOwn, extOwn, rm, bind_exc, outR_exc]) rfl
  rw [go__law_told_v1 h5]
  refine of_ends ?_
  unfold c__law_told_v1
  refine q_nx (ρ1 := [.v (shD S), .v (.str x), .v .non, .no, .no]) (by simp only [EVb, EVc, evW.eq_27, evW.eq_28, compfEv, rdF, compkEv, popdOwn, evVs, evBs, evT, evO, evIt, rdB, rdV, List.getD_cons_zero, List.getD_cons_succ, List.set_cons_zero, List.set_cons_succ, biEv, intEv, absEv, tupleEv, eq_self, decide_true, decide_false, if_true, if_false, appOwn, extOwn]) ?_
  refine q_nx (ρ1 := [.v (shD S), .v (.str x), .v .non, .v .non, .no]) (by simp only [EVb, EVc, evW.eq_27, evW.eq_28, compfEv, rdF, compkEv, popdOwn, evVs, evBs, evT, evO, evIt, rdB, rdV, List.getD_cons_zero, List.getD_cons_succ, List.set_cons_zero, List.set_cons_succ, biEv, intEv, absEv, tupleEv, eq_self, decide_true, decide_false, if_true, if_false, appOwn, extOwn]) ?_
  have e : evS (run Γ gl (n + 3)) gl (.tryk 4 2 x__law_told_v1_1 ["NoMeeting", "Taken", "NoTime", "TooMany", "NoZone", "NoText"]) [.v (shD S), .v (.str x), .v .non, .v .non, .no] = .nx [.v (shD S), .v (.str x), .v (.exc "NoMeeting"), .v .non, .no] := by
    simp only [x__law_told_v1_1, evSs, EVb, EVc, evW.eq_27, evW.eq_28, compfEv, rdF, compkEv, popdOwn, evVs, evBs, evT, evO, evIt, rdB, rdV, List.getD_cons_zero, List.getD_cons_succ, List.set_cons_zero, List.set_cons_succ, biEv, intEv, absEv, tupleEv, eq_self, decide_true, decide_false, if_true, if_false, appOwn, extOwn, r]
    rfl
  refine q_nx e ?_
  have en : isR (.exc "NoMeeting") .non = .ok false := rfl
  simp only [evSs, EVb, EVc, evW.eq_27, evW.eq_28, compfEv, rdF, compkEv, popdOwn, evVs, evBs, evT, evO, evIt, rdB, rdV, List.getD_cons_zero, List.getD_cons_succ, List.set_cons_zero, List.set_cons_succ, biEv, intEv, absEv, tupleEv, eq_self, decide_true, decide_false, if_true, if_false, appOwn, extOwn, en, w_NoMeeting h6]
theorem dSteps_len (f : M → List Str) : ∀ (l : List M) (P : List (List Str)), (l.foldl (dStep f) P).length ≤ P.length + l.length
  | [], P => Nat.le_refl _
  | m :: r, P => by
    have := dSteps_len f r (dStep f P m)
    have h : (dStep f P m).length ≤ P.length + 1 := by
      unfold dStep
      split
      · omega
      · rw [List.length_append, List.length_singleton]; omega
    rw [List.foldl_cons, List.length_cons]
    omega
theorem one_nx {cl : Str → List D → R W} {s : S} {ρ ρ1 : En} (h : evSs cl gl (.cons s .nil) ρ = .nx ρ1) : evS cl gl s ρ = .nx ρ1 := by
  rw [evSs] at h
  cases q : evS cl gl s ρ with
  | nx ρ2 =>
    rw [q] at h
    have h : evSs cl gl .nil ρ2 = .nx ρ1 := h
    rw [evSs] at h
    exact h
  | ct ρ2 => rw [q] at h; cases h
  | bk ρ2 => rw [q] at h; cases h
  | rt w => rw [q] at h; cases h
  | exc c ρ2 => rw [q] at h; cases h
  | stuck => rw [q] at h; cases h
def lsD (l : List Str) : D := .lst (l.map .str)
theorem good_ls : Good 1 lsD := good_lst good_str
theorem k10_law (h1 : Γ "_law_cell" = some fd__law_cell) (h2 : Γ "_law_pick" = some fd__law_pick) (h3 : Γ "_law_sheet" = some fd__law_sheet) (v1 : Γ "_law_over" = some fd__law_over) (v2 : Γ "_law_group" = some fd__law_group) (v3 : Γ "_law_word" = some fd__law_word) (v4 : Γ "_law_told" = some fd__law_told_v1)
    (p1 : Γ "laying_order" = some fd_laying_order) (p2 : Γ "groups" = some fd_groups) (p3 : Γ "meeting_of" = some fd_meeting_of) (p4 : Γ "group_of" = some fd_group_of) {cs : List Str} (k : Nat) (ns : List Int) : run2 Γ gl cs (k + 2) 5 c_law_k10 [scr ns] = .ok (.d (.bl true)) := by
  have hz : SIZE = 1000000 := rfl
  unfold run2
  refine of_ends ?_
  have hs := r_sheet (gl := gl) h1 h2 h3 (k + 1) ns (a := 0) (most := 10) (by decide) (by decide) (by decide)
  have ln := sheetA_len ns 0 (most := 10) (by decide)
  have mem := fun m (h : m ∈ sheetA ns 0 10) => sheetA_mem h
  have nd := sheetA_nodup ns 0 (most := 10) (by decide) (by decide)
  have nam := fun m (h : m ∈ sheetA ns 0 10) => sheetA_name (ns := ns) (a := 0) (most := 10) (by decide) (by decide) h
  generalize sheetA ns 0 10 = S at *
  have ln : S.length ≤ 10 := ln
  have ok : ∀ m ∈ S, 0 ≤ m.b ∧ m.b < m.e := fun m hm => ⟨(mem m hm).1, (mem m hm).2.1⟩
  have nno : ∀ m ∈ S, m.n ≠ "none" := fun m hm e => by
    have := nam m hm
    rw [e] at this
    revert this
    decide +kernel
  have grp := fun g (hg : g ∈ gOf S) m (hm : m ∈ g) => r_lgroup (gl := gl) v1 v2 (k + 2) (S := S) (by omega) nd ok hg hm
  have told := fun m (hm : m ∈ S) => r_told10 (gl := gl) p1 p2 p3 p4 v4 k nd (by omega) hm
  have tno := r_told10_no (gl := gl) p3 p4 v4 v3 k nno
  have rg := r_groups (gl := gl) p1 p2 (k + 2) (S := S) (by omega)
  have due := due_all nd fun m hm => (ok m hm).2
  show Ends _ (evSs2 _ _ gl cs _ c_law_k10 [.v (scr ns), .no, .no, .no, .no])
  unfold c_law_k10
  refine q2_s (ρ1 := [.v (scr ns), .v (shD S), .no, .no, .no]) (by simp only [EVb, EVc, evW.eq_27, evW.eq_28, compfEv, rdF, compkEv, popdOwn, evVs, evBs, evT, evO, evIt, rdB, rdV, List.getD_cons_zero, List.getD_cons_succ, List.set_cons_zero, List.set_cons_succ, biEv, intEv, absEv, tupleEv, eq_self, decide_true, decide_false, if_true, if_false, appOwn, extOwn, hs]) ?_
  refine q2_s (ρ1 := [.v (scr ns), .v (shD S), .ol [], .no, .no]) (by simp only [EVb, EVc, evW.eq_27, evW.eq_28, compfEv, rdF, compkEv, popdOwn, evVs, evBs, evT, evO, evIt, rdB, rdV, List.getD_cons_zero, List.getD_cons_succ, List.set_cons_zero, List.set_cons_succ, biEv, intEv, absEv, tupleEv, eq_self, decide_true, decide_false, if_true, if_false, appOwn, extOwn]) ?_
  have lp : ∀ (pre : List M) (P : List (List Str)) (x3 x4 : Sl) (m : M), m ∈ S → P.length ≤ 100 → evSs (run Γ gl (k + 4)) gl (.cons (.asg (.one 4) (.call "_law_group" (.cons (.var 1) (.cons (.ix (.var 3) (.k (.int 0))) .nil)))) (.cons (.ife (.cmp .NotIn (.var 4) (.var 2)) (.cons (.app 2 (.var 4)) .nil) .nil) .nil)) [.v (scr ns), .v (shD S), .ol (P.map lsD), .v (mD m), x4] = .nx [.v (scr ns), .v (shD S), .ol ((dStep (grN S) P m).map lsD), .v (mD m), .v (lsD (grN S m))] := fun pre P x3 x4 m hm hP => by
    obtain ⟨g, hg, mg⟩ := grp_mem hm
    have r := grp g hg m mg
    have eg := grN_of nd hg mg
    rw [← eg] at r
    have ea : evS (run Γ gl (k + 4)) gl (.asg (.one 4) (.call "_law_group" (.cons (.var 1) (.cons (.ix (.var 3) (.k (.int 0))) .nil)))) [.v (scr ns), .v (shD S), .ol (P.map lsD), .v (mD m), x4] = .nx [.v (scr ns), .v (shD S), .ol (P.map lsD), .v (mD m), .v (lsD (grN S m))] := by
      simp only [EVb, EVc, evW.eq_27, evW.eq_28, compfEv, rdF, compkEv, popdOwn, evVs, evBs, evT, evO, evIt, rdB, rdV, List.getD_cons_zero, List.getD_cons_succ, List.set_cons_zero, List.set_cons_succ, biEv, intEv, absEv, tupleEv, eq_self, decide_true, decide_false, if_true, if_false, appOwn, extOwn, ix_mD0, r]
      rfl
    have im : inR (lsD (grN S m)) (P.map lsD) = .ok (decide (grN S m ∈ P)) := (good_ls.inR _ _).trans (by congr)
    have hlt : (P.map lsD).length < SIZE := by rw [List.length_map]; omega
    rw [evSs, ea]
    dsimp only
    rw [evSs]
    unfold dStep
    by_cases c : grN S m ∈ P
    · rw [decide_eq_true c] at im
      rw [if_pos c]
      simp only [evSs, EVb, EVc, evW.eq_27, evW.eq_28, compfEv, rdF, compkEv, popdOwn, evVs, evBs, evT, evO, evIt, rdB, rdV, List.getD_cons_zero, List.getD_cons_succ, List.set_cons_zero, List.set_cons_succ, biEv, intEv, absEv, tupleEv, eq_self, decide_true, decide_false, if_true, if_false, appOwn, extOwn, im, notR_ok, Bool.not_true, Bool.false_eq_true]
    · rw [decide_eq_false c] at im
      rw [if_neg c, List.map_append]
      simp only [evSs, EVb, EVc, evW.eq_27, evW.eq_28, compfEv, rdF, compkEv, popdOwn, evVs, evBs, evT, evO, evIt, rdB, rdV, List.getD_cons_zero, List.getD_cons_succ, List.set_cons_zero, List.set_cons_succ, biEv, intEv, absEv, tupleEv, eq_self, decide_true, decide_false, if_true, if_false, appOwn, extOwn, im, notR_ok, Bool.not_false, hlt]
      rfl
  have e3 : IsNx (fun ρ => ∃ x3 x4, ρ = [.v (scr ns), .v (shD S), .ol (((gOf S).map sortN).map lsD), x3, x4]) (evS2 (run Γ gl (k + 4)) (run Γ gl (k + 2)) gl cs (run Γ gl (k + 3) "_law_class") (.forS (.one 3) 1 (.cons (.asg (.one 4) (.call "_law_group" (.cons (.var 1) (.cons (.ix (.var 3) (.k (.int 0))) .nil)))) (.cons (.ife (.cmp .NotIn (.var 4) (.var 2)) (.cons (.app 2 (.var 4)) .nil) .nil) .nil))) [.v (scr ns), .v (shD S), .ol [], .no, .no]) := by
    have r1 : (rdB [.v (scr ns), .v (shD S), .ol [], .no, .no] 1).bind skEv = .ok (.fl ((byB S).map mD)) := sk_sheet (by omega)
    rw [evS2, r1, outR_ok]
    refine q_loop (enc := mD) (byB S) (fun pre ρ => ∃ x3 x4, ρ = [.v (scr ns), .v (shD S), .ol ((pre.foldl (dStep (grN S)) []).map lsD), x3, x4]) ⟨_, _, rfl⟩ (fun pre m post e ρ i => ?_) fun ρ i => ?_
    · obtain ⟨x3, x4, rfl⟩ := i
      refine ⟨_, rfl, ?_⟩
      have hm : m ∈ S := (byB_perm S).mem_iff.mp (by rw [e]; simp)
      have l1 : pre.length ≤ S.length := by
        have := congrArg List.length e
        rw [(byB_perm S).length_eq, List.length_append] at this
        omega
      have l2 := dSteps_len (grN S) pre []
      rw [List.length_nil] at l2
      have b := lp pre _ x3 x4 m hm (show (pre.foldl (dStep (grN S)) []).length ≤ 100 by omega)
      show (match evSs (run Γ gl (k + 4)) gl _ [.v (scr ns), .v (shD S), .ol ((pre.foldl (dStep (grN S)) []).map lsD), .v (mD m), x4] with
        | .nx ρ2 => _
        | .ct ρ2 => _
        | .bk ρ2 => _
        | f => _)
      rw [b, List.foldl_append]
      exact ⟨_, _, rfl⟩
    · obtain ⟨x3, x4, rfl⟩ := i
      rw [due]
      exact ⟨_, rfl, x3, x4, rfl⟩
  obtain ⟨ρ, e3, x3, x4, rfl⟩ := e3
  refine q2_nx e3 ?_
  have eq1 : eqR (.lst ((gOf S).map fun g => .lst ((sortN g).map .str))) (.lst (((gOf S).map sortN).map lsD)) = .ok true := by
    have := (good_lst good_ls).eqR ((gOf S).map sortN) ((gOf S).map sortN)
    rw [decide_eq_true rfl, List.map_map] at this
    rw [List.map_map]
    exact this
  refine q2_skip (by
    simp only [EVb, EVc, evW.eq_27, evW.eq_28, compfEv, rdF, compkEv, popdOwn, evVs, evBs, evT, evO, evIt, rdB, rdV, List.getD_cons_zero, List.getD_cons_succ, List.set_cons_zero, List.set_cons_succ, biEv, intEv, absEv, tupleEv, eq_self, decide_true, decide_false, if_true, if_false, appOwn, extOwn, rg, eq1, notR_ok, Bool.not_true]) ?_
  have e5 : IsNx (fun ρ => ∃ x3, ρ = [.v (scr ns), .v (shD S), .ol (((gOf S).map sortN).map lsD), x3, x4]) (evSs (run Γ gl (k + 4)) gl (.cons (.for (.one 3) (.seq (.var 1)) x_law_k10_1) .nil) [.v (scr ns), .v (shD S), .ol (((gOf S).map sortN).map lsD), x3, x4]) := by
    refine q_for (enc := mD) S rfl (fun pre ρ => ∃ x3, ρ = [.v (scr ns), .v (shD S), .ol (((gOf S).map sortN).map lsD), x3, x4]) ⟨x3, rfl⟩ (fun pre m post e ρ i => ?_) fun ρ i => ?_
    · obtain ⟨y3, rfl⟩ := i
      refine ⟨_, rfl, ?_⟩
      have hm : m ∈ S := by rw [e]; simp
      obtain ⟨g, hg, mg, t⟩ := told m hm
      have r := grp g hg m mg
      have eq2 : eqR (.lst ((sortN g).map .str)) (.lst ((sortN g).map .str)) = .ok true := by
        have := (good_lst good_str).eqR (sortN g) (sortN g)
        rw [decide_eq_true rfl] at this
        exact this
      have eb : evSs (run Γ gl (k + 4)) gl x_law_k10_1 [.v (scr ns), .v (shD S), .ol (((gOf S).map sortN).map lsD), .v (mD m), x4] = .nx [.v (scr ns), .v (shD S), .ol (((gOf S).map sortN).map lsD), .v (mD m), x4] := by
        simp only [x_law_k10_1, evSs, EVb, EVc, evW.eq_27, evW.eq_28, compfEv, rdF, compkEv, popdOwn, evVs, evBs, evT, evO, evIt, rdB, rdV, List.getD_cons_zero, List.getD_cons_succ, List.set_cons_zero, List.set_cons_succ, biEv, intEv, absEv, tupleEv, eq_self, decide_true, decide_false, if_true, if_false, appOwn, extOwn, ix_mD0, t, r, eq2, notR_ok, Bool.not_true, Bool.false_eq_true]
      show Nxt _ _ _ (evSs (run Γ gl (k + 4)) gl x_law_k10_1 [.v (scr ns), .v (shD S), .ol (((gOf S).map sortN).map lsD), .v (mD m), x4])
      rw [eb]
      exact ⟨_, rfl⟩
    · obtain ⟨y3, rfl⟩ := i
      exact ⟨_, by rw [evSs], y3, rfl⟩
  obtain ⟨ρ, e5, y3, rfl⟩ := e5
  refine q2_s (one_nx e5) ?_
  have eq3 : eqR (.str "no meeting") (.str "no meeting") = .ok true := by
    have := good_str.eqR "no meeting" "no meeting"
    rw [decide_eq_true rfl] at this
    exact this
  refine q2_last (d := .bl true) (by simp only [evSs, EVb, EVc, evW.eq_27, evW.eq_28, compfEv, rdF, compkEv, popdOwn, evVs, evBs, evT, evO, evIt, rdB, rdV, List.getD_cons_zero, List.getD_cons_succ, List.set_cons_zero, List.set_cons_succ, biEv, intEv, absEv, tupleEv, eq_self, decide_true, decide_false, if_true, if_false, appOwn, extOwn, tno, eq3]) rfl
end
end G81
end
section
set_option linter.all false
set_option maxHeartbeats 4000000
namespace G81
namespace K10
open PySem PySem.Spec L2
def Pg : Program := PySem.Challenge.pw_daysheet_k10_whole_groups
def top (i : Nat) : Stmt := Pg.main.body.getD i (.Pass ⟨0, 0, 0, 0⟩)
def t_meeting_of : DT := ⟨["sheet", "name", "one"], fd_meeting_of, top 9⟩
def t_laying_order : DT := ⟨["sheet", "keyed", "one", "begin", "less", "name"], fd_laying_order, top 11⟩
def t_groups : DT := ⟨["sheet", "made", "end", "one", "group"], fd_groups, top 12⟩
def t_group_of : DT := ⟨["sheet", "name", "group"], fd_group_of, top 13⟩
def t__law_cell : DT := ⟨["_law_script", "_law_k"], fd__law_cell, top 15⟩
def t__law_pick : DT := ⟨["_law_script", "_law_k", "_law_many", "_law_drawn"], fd__law_pick, top 16⟩
def t__law_sheet : DT := ⟨["_law_script", "_law_at", "_law_most_here", "_law_span", "_law_names", "_law_made", "_law_k", "_law_begin", "_law_size"], fd__law_sheet, top 17⟩
def t__law_over : DT := ⟨["_law_one", "_law_other"], fd__law_over, top 18⟩
def t__law_word : DT := ⟨["_law_kept", "_law_kinds"], fd__law_word, top 21⟩
def t__law_group : DT := ⟨["_law_sheet_here", "_law_name", "_law_found", "_law_at", "_law_rows", "_law_one"], fd__law_group, top 22⟩
def t__law_told : DT := ⟨["_law_sheet_here", "_law_name", "_law_kept", "_law_answer", "e"], fd__law_told_v1, top 23⟩
def t_law : DT := ⟨["_law_script", "_law_sheet_here", "_law_due", "_law_one", "_law_group_here"], ⟨1, 5, .nil⟩, top 24⟩
def tab : Tab := [("meeting_of", t_meeting_of), ("laying_order", t_laying_order), ("groups", t_groups), ("group_of", t_group_of), ("_law_cell", t__law_cell), ("_law_pick", t__law_pick), ("_law_sheet", t__law_sheet), ("_law_over", t__law_over), ("_law_word", t__law_word), ("_law_group", t__law_group), ("_law_told", t__law_told)]
def fns : List Str := tab.map (·.1)
def gls : List Str := []
def cls : List Str := ["NoMeeting", "NoText", "NoTime", "NoZone", "Taken", "TooMany"]
def glo : List (Str × D) := []
def gl (y : Str) : Option D := glo.lookup y
theorem get_meeting_of : tab.get "meeting_of" = some fd_meeting_of := by rfl
theorem get_laying_order : tab.get "laying_order" = some fd_laying_order := by rfl
theorem get_groups : tab.get "groups" = some fd_groups := by rfl
theorem get_group_of : tab.get "group_of" = some fd_group_of := by rfl
theorem get__law_cell : tab.get "_law_cell" = some fd__law_cell := by rfl
theorem get__law_pick : tab.get "_law_pick" = some fd__law_pick := by rfl
theorem get__law_sheet : tab.get "_law_sheet" = some fd__law_sheet := by rfl
theorem get__law_over : tab.get "_law_over" = some fd__law_over := by rfl
theorem get__law_word : tab.get "_law_word" = some fd__law_word := by rfl
theorem get__law_group : tab.get "_law_group" = some fd__law_group := by rfl
theorem get__law_told : tab.get "_law_told" = some fd__law_told_v1 := by rfl
end K10
end G81
namespace G81
namespace K10
open PySem PySem.Spec L2
set_option maxRecDepth 100000 in
theorem ok_meeting_of : t_meeting_of.ok fns gls cls = true := by kernel_rfl
theorem bd_meeting_of : BindOk "meeting_of" t_meeting_of := fun _ _ _ _ _ _ us hl => match us, hl with | [_, _], _ => rfl
set_option maxRecDepth 100000 in
theorem ok_laying_order : t_laying_order.ok fns gls cls = true := by kernel_rfl
theorem bd_laying_order : BindOk "laying_order" t_laying_order := fun _ _ _ _ _ _ us hl => match us, hl with | [_], _ => rfl
set_option maxRecDepth 100000 in
theorem ok_groups : t_groups.ok fns gls cls = true := by kernel_rfl
theorem bd_groups : BindOk "groups" t_groups := fun _ _ _ _ _ _ us hl => match us, hl with | [_], _ => rfl
set_option maxRecDepth 100000 in
theorem ok_group_of : t_group_of.ok fns gls cls = true := by kernel_rfl
theorem bd_group_of : BindOk "group_of" t_group_of := fun _ _ _ _ _ _ us hl => match us, hl with | [_, _], _ => rfl
set_option maxRecDepth 100000 in
theorem ok__law_cell : t__law_cell.ok fns gls cls = true := by kernel_rfl
theorem bd__law_cell : BindOk "_law_cell" t__law_cell := fun _ _ _ _ _ _ us hl => match us, hl with | [_, _], _ => rfl
set_option maxRecDepth 100000 in
theorem ok__law_pick : t__law_pick.ok fns gls cls = true := by kernel_rfl
theorem bd__law_pick : BindOk "_law_pick" t__law_pick := fun _ _ _ _ _ _ us hl => match us, hl with | [_, _, _], _ => rfl
set_option maxRecDepth 100000 in
theorem ok__law_sheet : t__law_sheet.ok fns gls cls = true := by kernel_rfl
theorem bd__law_sheet : BindOk "_law_sheet" t__law_sheet := fun _ _ _ _ _ _ us hl => match us, hl with | [_, _, _], _ => rfl
set_option maxRecDepth 100000 in
theorem ok__law_over : t__law_over.ok fns gls cls = true := by kernel_rfl
theorem bd__law_over : BindOk "_law_over" t__law_over := fun _ _ _ _ _ _ us hl => match us, hl with | [_, _], _ => rfl
set_option maxRecDepth 100000 in
theorem ok__law_word : t__law_word.ok fns gls cls = true := by kernel_rfl
theorem bd__law_word : BindOk "_law_word" t__law_word := fun _ _ _ _ _ _ us hl => match us, hl with | [_], _ => rfl
set_option maxRecDepth 100000 in
theorem ok__law_group : t__law_group.ok fns gls cls = true := by kernel_rfl
theorem bd__law_group : BindOk "_law_group" t__law_group := fun _ _ _ _ _ _ us hl => match us, hl with | [_, _], _ => rfl
set_option maxRecDepth 100000 in
theorem ok__law_told : t__law_told.ok fns gls cls = true := by kernel_rfl
theorem bd__law_told : BindOk "_law_told" t__law_told := fun _ _ _ _ _ _ us hl => match us, hl with | [_, _], _ => rfl
theorem ok_all : ∀ p ∈ tab, p.2.ok fns gls cls = true := fun p hp => by
  simp only [tab, List.mem_cons, List.not_mem_nil, or_false] at hp
  rcases hp with rfl | rfl | rfl | rfl | rfl | rfl | rfl | rfl | rfl | rfl | rfl
  · exact ok_meeting_of
  · exact ok_laying_order
  · exact ok_groups
  · exact ok_group_of
  · exact ok__law_cell
  · exact ok__law_pick
  · exact ok__law_sheet
  · exact ok__law_over
  · exact ok__law_word
  · exact ok__law_group
  · exact ok__law_told
theorem bd_all : ∀ p ∈ tab, BindOk p.1 p.2 := fun p hp => by
  simp only [tab, List.mem_cons, List.not_mem_nil, or_false] at hp
  rcases hp with rfl | rfl | rfl | rfl | rfl | rfl | rfl | rfl | rfl | rfl | rfl
  · exact bd_meeting_of
  · exact bd_laying_order
  · exact bd_groups
  · exact bd_group_of
  · exact bd__law_cell
  · exact bd__law_pick
  · exact bd__law_sheet
  · exact bd__law_over
  · exact bd__law_word
  · exact bd__law_group
  · exact bd__law_told
theorem fns_ok : ∀ f ∈ fns, (tab.lookup f).isSome = true := by decide +kernel
theorem bd_law : BindOk "law" t_law := fun _ _ _ _ _ _ us hl => match us, hl with | [_], _ => rfl
set_option maxRecDepth 100000 in
theorem lsc : scB t_law.N t_law.ps (defScope t_law.st) = true := by kernel_rfl
set_option maxRecDepth 100000 in
theorem lck : ckSs2 ⟨t_law.N, defScope t_law.st, none, fns, gls, cls, false, false⟩ c_law_k10 (defBody t_law.st) = true := by kernel_rfl
theorem nt : c_law_k10.any hasTold = false := by rfl
theorem bd_all2 : ∀ p ∈ (("law", t_law) :: tab : Tab), BindOk p.1 p.2 := fun p hp => by
  rcases List.mem_cons.mp hp with rfl | hp
  · exact bd_law
  exact bd_all p hp
end K10
end G81
namespace G81.K10
open PySem PySem.Spec L2
theorem math (ns : List Int) (h : ns.length ≤ 63) : run2 tab.get gl [] 14 t_law.N.length c_law_k10 [.lst (ns.map D.int)] = .ok (.d (.bl true)) := k10_law get__law_cell get__law_pick get__law_sheet get__law_over get__law_group get__law_word get__law_told get_laying_order get_groups get_meeting_of get_group_of 12 ns
end G81.K10
open PySem PySem.W PyProof.Rows
set_option maxRecDepth 100000 in
set_option maxHeartbeats 0 in
theorem PySem.Challenge.cw_daysheet_k10_whole_groups_holds : PySem.Challenge.rw_daysheet_k10_whole_groups.Holds := by
  w_on; o_law; k_head; (case hw => w_witness2)
  k_fill
  refine G81.walk_law2s (l := PySem.Challenge.rw_daysheet_k10_whole_groups) (n := 63) (k := 14) (T := G81.K10.tab) (gl := G81.K10.gl) (fns := G81.K10.fns) (gls := G81.K10.gls) (cls := G81.K10.cls) (cs := []) (tl := G81.K10.t_law) (b := G81.c_law_k10) (x := "_law_script") rfl (by decide) rfl ⟨rfl, by decide, by decide⟩ (by decide +kernel) (fun w h Y => PySem.W.km_in_of Y) rfl rfl G81.K10.nt G81.K10.bd_all2 G81.K10.fns_ok G81.K10.ok_all G81.K10.lsc G81.K10.lck G81.K10.math (fun w => G81.law_in ?_) (fun w => ?_)
  · kernel_rfl
  · kernel_rfl
end

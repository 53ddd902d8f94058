import PyProof.Rows.All
import Wide.All
import OpenK.AllK
import Wide.FinOn
import HandS.ForMost
import HandS.ForExc
import HandS.TryMany
import HandS.ExcSuper
import HandS.Conv
import HandS.Codes
import HandS.FStr
import HandS.Property
import HandS.IsInst
import HandS.Strs
import HandS.SortInts
import HandS.RaiseMore
import HandS.Style
import HandS.TupMul
import HandS.TupAny
import HandS.Deep
import HandS.Star
import KE.DataFind
import HandS.HeadHook1
import HandS.HeadHook2
import HandS.Steps
import HandS.SetFor
import HandS.TupSets
import KE.GoesEnum
import HandS.NamedTupSort
import HandS.HeadNt
import HandS.HeadHook3
import PySem.Challenge.RW_toldcounts_k54_whole_known_reports_by_ha
section
set_option Elab.async false
set_option linter.all false
set_option autoImplicit false
set_option maxRecDepth 100000
/-! PV1: plain values, the small tree (E, S), its evaluator. -/
namespace PV
open PySem

/-! ### values -/
inductive Val where
  | non | bl (b : Bool) | int (i : Int) | str (s : Str)
  /-- a tuple; d: it is known to stand alone (a display made it) -/
  | tup (d : Bool) (xs : List Val) | lst (xs : List Val)
  /-- a list that is read alone: the script -/
  | scr (xs : List Val)
  /-- a set of ints -/
  | st (is : List Int)
  /-- an instance of the class numbered c, its attributes by place -/
  | ins (c : Nat) (xs : List Val)
  deriving Inhabited

mutual
def Val.toD : Val → Option PyData
  | .non => some .none
  | .bl b => some (.bool b)
  | .int i => some (.int i)
  | .str s => some (.str s)
  | .tup _ xs => match Val.toDs xs with | some ds => some (.tuple ds) | none => none
  | .lst xs => match Val.toDs xs with | some ds => some (.list ds) | none => none
  | .scr _ => none
  | .st _ => none
  | .ins _ _ => none
def Val.toDs : List Val → Option (List PyData)
  | [] => some []
  | x :: xs => match Val.toD x with
    | some d => (match Val.toDs xs with | some ds => some (d :: ds) | none => none)
    | none => none
end

/-- what a slot of a frame holds: nothing, a value, a list of its own, an instance that is being made -/
inductive Slot where
  | un | v (x : Val) | ol (xs : List Val) | oo (c : Nat) (ks : List Str) (xs : List Val)
  deriving Inhabited
abbrev Env := List Slot
/-- an exception: its class by number, what it was given -/
structure Exn where
  c : Nat
  x : Option Val
inductive Res (α : Type) where
  | ok (a : α) (ρ : Env) | exc (e : Exn) (ρ : Env) | stuck
/-- what an expression gives: a value, or a new list (list nodes and what is walked give their items so too) -/
inductive RV where
  | val (x : Val) | fresh (xs : List Val)
def RV.frz : RV → Val
  | .val x => x
  | .fresh xs => .lst xs
def isNon : RV → Bool
  | .val .non => true
  | _ => false
/-- what a def gives -/
inductive FR where
  | ok (r : RV) (o : Slot) | exc (e : Exn) (o : Slot) | stuck
abbrev Fns := Nat → Slot → List Val → FR

def Res.bnd {α β : Type} (m : Res α) (f : α → Env → Res β) : Res β := match m with
  | .ok a ρ => f a ρ
  | .exc e ρ => .exc e ρ
  | .stuck => .stuck

/-! ### operations on values -/
inductive Op1 where
  | neg | len | sum | all | any | tuple | list | sorted | int | str | abs | repr | maxL | minL | sset
  | isInt | isBool | isTup | isLst | isStr | isCls (c : Nat)
  /-- z in, not in a dict of texts by texts; its value there -/
  | dIn (ng : Bool) (kvs : List (Str × Str)) | dGet (kvs : List (Str × Str))
  /-- sorted(set(..)) of tuples of ints; a set that is kept -/
  | ssetT | mset
  deriving DecidableEq
inductive Op2 where
  | add | sub | mul | fdiv | mod | pow
  | eq | ne | lt | le | gt | ge | inn | notin
  | ix | max | min | divmod
  deriving DecidableEq

def intsOf : List Val → Option (List Int)
  | [] => some []
  | .int i :: r => match intsOf r with | some is => some (i :: is) | none => none
  | _ :: _ => none
def boolsOf : List Val → Option (List Bool)
  | [] => some []
  | .bl b :: r => match boolsOf r with | some bs => some (b :: bs) | none => none
  | _ :: _ => none
def strsOf : List Val → Option (List Str)
  | [] => some []
  | .str s :: r => match strsOf r with | some ss => some (s :: ss) | none => none
  | _ :: _ => none
def itemsOf : Val → Option (List Val)
  | .tup _ xs => some xs
  | .lst xs => some xs
  | .scr xs => some xs
  | _ => none
def isDis : Val → Bool
  | .tup d _ => d
  | _ => false
def insI (i : Int) : List Int → List Int
  | [] => [i]
  | j :: r => if i ≤ j then i :: j :: r else j :: insI i r
def sortI : List Int → List Int
  | [] => []
  | i :: r => insI i (sortI r)
def dedupI : List Int → List Int
  | [] => []
  | i :: r => if r.any (· == i) then dedupI r else i :: dedupI r
def tupsOf : List Val → Option (List (List Int))
  | [] => some []
  | .tup _ xs :: r => match intsOf xs, tupsOf r with | some is, some ks => some (is :: ks) | _, _ => none
  | _ :: _ => none
/-- lists of ints in their order -/
def ltL : List Int → List Int → Bool
  | [], [] => false
  | [], _ :: _ => true
  | _ :: _, [] => false
  | i :: r, j :: q => if i = j then ltL r q else decide (i < j)
def insT (k : List Int) : List (List Int) → List (List Int)
  | [] => [k]
  | j :: r => if ltL j k then j :: insT k r else k :: j :: r
def sortT : List (List Int) → List (List Int)
  | [] => []
  | k :: r => insT k (sortT r)
def dedupT : List (List Int) → List (List Int)
  | [] => []
  | k :: r => if r.any (· == k) then dedupT r else k :: dedupT r
/-- the greatest, the least of a list -/
def maxI : Int → List Int → Int
  | m, [] => m
  | m, i :: r => maxI (if i > m then i else m) r
def minI : Int → List Int → Int
  | m, [] => m
  | m, i :: r => minI (if i < m then i else m) r

/- the order of ints and of tuples of them; none: other things -/
mutual
def cmpV : Val → Val → Option Ordering
  | .int i, .int j => some (if i < j then .lt else if i = j then .eq else .gt)
  | .tup _ xs, .tup _ ys => cmpVs xs ys
  | _, _ => none
def cmpVs : List Val → List Val → Option Ordering
  | [], [] => some .eq
  | [], _ :: _ => some .lt
  | _ :: _, [] => some .gt
  | x :: xs, y :: ys => match cmpV x y with
    | some .eq => cmpVs xs ys
    | o => o
end

/-- equal as Python has it, for what is no instance -/
def eqV (x y : Val) : Option Bool := match x.toD, y.toD with
  | some d, some e => if SeqAt.shaped d && SeqAt.shaped e then some (PyData.eqv d e) else none
  | _, _ => none
/-- flat values -/
def flV : Val → Option L2.V
  | .non => some .non
  | .bl b => some (.bl b)
  | .int i => some (.int i)
  | .str s => some (.str s)
  | _ => none
def flVs : List Val → Option (List L2.V)
  | [] => some []
  | x :: xs => match flV x, flVs xs with
    | some v, some vs => some (v :: vs)
    | _, _ => none
/-- x in ys: a list of data, a tuple of flat values -/
def inV (x : Val) : Val → Option Bool
  | .lst ys => match x.toD, Val.toDs ys with
    | some d, some ds => if SeqAt.shaped d && SeqAt.shaped (.list ds) then some (ds.any fun z => PyData.eqv z d) else none
    | _, _ => none
  | .tup _ ys => match flV x, flVs ys with
    | some v, some vs => some (L2.inV v vs)
    | _, _ => none
  | .st is => match x with
    | .int i => some (is.any (· == i))
    | _ => none
  | .str z => match x with
    | .str y => match y.cps.toList with
      | [c] => some (decide (c ∈ z.cps.toList))
      | _ => none
    | _ => none
  | _ => none
def idxV (x : Val) : List Val → Option Nat
  | [] => none
  | y :: ys => match eqV y x with
    | some true => some 0
    | some false => (match idxV x ys with | some n => some (n + 1) | none => none)
    | none => none
def countV (x : Val) (ys : List Val) : Option Nat := match x.toD, Val.toDs ys with
  | some d, some ds => if d.plain && PyData.plainAll ds && decide (d.depth < 64) then some (ds.countP fun y => PyData.eqv y d) else none
  | _, _ => none
/-- texts one behind the other -/
def joinV (a : Str) (ys : List Str) : Option Str := if (ys.map (·.length)).sum + ys.length * a.length ≤ 100000 then some (Str.join a ys) else none
def atV (xs : List Val) (i : Int) : Option Val :=
  if 0 ≤ i then xs[i.toNat]? else if -(xs.length : Int) ≤ i then xs[(xs.length + i).toNat]? else none
/-- the truth of a value -/
def truV : Val → Option Bool
  | .bl b => some b
  | _ => none

def op1 : Op1 → Val → Option RV
  | .neg, .int i => some (.val (.int (-i)))
  | .len, x => (match itemsOf x with
    | some xs => some (.val (.int xs.length))
    | none => (match x with | .str s => if s.length ≤ 100000 then some (.val (.int s.length)) else none | _ => none))
  | .sum, .lst xs => (match intsOf xs with | some is => some (.val (.int is.sum)) | none => none)
  | .sum, .tup _ xs => (match intsOf xs with | some is => some (.val (.int is.sum)) | none => none)
  | .all, .lst xs => (match boolsOf xs with | some bs => some (.val (.bl (bs.all id))) | none => none)
  | .any, .lst xs => (match boolsOf xs with | some bs => some (.val (.bl (bs.any id))) | none => none)
  | .tuple, x => (match itemsOf x with | some xs => some (.val (.tup (isDis x) xs)) | none => none)
  | .list, x => (match itemsOf x with | some xs => some (.fresh xs) | none => none)
  | .sorted, .lst xs => (match intsOf xs with | some is => some (.fresh ((sortI is).map Val.int)) | none => none)
  | .mset, .lst xs => (match intsOf xs with
    | some is => if xs.length < 4000 then some (.val (.st is)) else none
    | none => none)
  | .sset, .lst xs => (match intsOf xs with
    | some is => if xs.length < 4000 && (dedupI is).length < 64 then some (.fresh ((sortI (dedupI is)).map Val.int)) else none
    | none => none)
  | .int, .int i => some (.val (.int i))
  | .str, .int i => if i.natAbs.log2 < 1920 then some (.val (.str (toString i))) else none
  | .str, .str s => some (.val (.str s))
  | .abs, .int i => some (.val (.int (if i < 0 then -i else i)))
  | .maxL, .lst xs => (match intsOf xs with | some (i :: is) => some (.val (.int (maxI i is))) | _ => none)
  | .minL, .lst xs => (match intsOf xs with | some (i :: is) => some (.val (.int (minI i is))) | _ => none)
  | .dIn ng kvs, .str z => (match kvs.lookup z with | some _ => some (.val (.bl (!ng))) | none => none)
  | .dGet kvs, .str z => (match kvs.lookup z with | some y => some (.val (.str y)) | none => none)
  | .ssetT, .lst xs => (match tupsOf xs with
    | some ks => if xs.length < 64 then some (.fresh ((sortT (dedupT ks)).map fun k => .tup false (k.map Val.int))) else none
    | none => none)
  | .isInt, x => some (.val (.bl (match x with | .int _ => true | .bl _ => true | _ => false)))
  | .isBool, x => some (.val (.bl (match x with | .bl _ => true | _ => false)))
  | .isTup, x => some (.val (.bl (match x with | .tup _ _ => true | _ => false)))
  | .isLst, x => some (.val (.bl (match x with | .lst _ => true | .scr _ => true | _ => false)))
  | .isStr, x => some (.val (.bl (match x with | .str _ => true | _ => false)))
  | .isCls c, x => some (.val (.bl (match x with | .ins d _ => d == c | _ => false)))
  | _, _ => none

def b2V (b : Bool) : Option RV := some (.val (.bl b))
def op2 : Op2 → Val → Val → Option RV
  | .add, .int i, .int j => some (.val (.int (i + j)))
  | .add, .str s, .str t => if s.length + t.length ≤ 100000 then some (.val (.str (s ++ t))) else none
  | .add, .tup _ xs, .tup _ ys => if xs.length + ys.length ≤ 100000 then some (.val (.tup false (xs ++ ys))) else none
  | .add, .lst xs, .lst ys => if xs.length + ys.length ≤ 100000 then some (.fresh (xs ++ ys)) else none
  | .sub, .int i, .int j => some (.val (.int (i - j)))
  | .mul, .int i, .int j => if -(2 ^ 64) < i ∧ i < 2 ^ 64 ∨ -(2 ^ 64) < j ∧ j < 2 ^ 64 then some (.val (.int (i * j))) else none
  | .mul, .tup _ xs, .int k => if xs.length * k.toNat ≤ 100000 ∧ xs.length ≤ 1000 ∧ k ≤ 1000 ∧ 1 ≤ k then some (.val (.tup false (List.replicate k.toNat xs).flatten)) else none
  | .mul, .lst xs, .int k => if xs.length * k.toNat ≤ 100000 ∧ k < 100000 ∧ -100000 < k then some (.fresh (List.replicate k.toNat xs).flatten) else none
  | .fdiv, .int i, .int j => if j ≠ 0 ∧ j.natAbs < 1073741824 then some (.val (.int (i.fdiv j))) else none
  | .mod, .int i, .int j => if 0 < j then some (.val (.int (i % j))) else none
  | .pow, .int i, .int j => if 0 ≤ j ∧ j ≤ 1000000 ∧ i.natAbs < 2 ^ 64 then some (.val (.int (i ^ j.toNat))) else none
  | .eq, x, y => (match eqV x y with | some b => b2V b | none => none)
  | .ne, x, y => (match eqV x y with | some b => b2V (!b) | none => none)
  | .lt, .int i, .int j => b2V (decide (i < j))
  | .le, .int i, .int j => b2V (decide (i ≤ j))
  | .gt, .int i, .int j => b2V (decide (j < i))
  | .ge, .int i, .int j => b2V (decide (j ≤ i))
  | .inn, x, y => (match inV x y with | some b => b2V b | none => none)
  | .notin, x, y => (match inV x y with | some b => b2V (!b) | none => none)
  | .ix, x, .int i => (match itemsOf x with | some xs => (match atV xs i with | some y => some (.val y) | none => none) | none => none)
  | .max, .int i, .int j => some (.val (.int (if j > i then j else i)))
  | .min, .int i, .int j => some (.val (.int (if j < i then j else i)))
  | .divmod, .int i, .int j => if 0 < j ∧ j < 1073741824 then some (.val (.tup false [.int (i / j), .int (i % j)])) else none
  | _, _, _ => none

/-! ### the small tree -/
/-- targets: a name's slot, a tuple of names -/
inductive Tg where
  | nm (i : Nat) | tp (is : List Nat)
inductive E where
  | non | bl (b : Bool) | int (i : Int) | str (s : Str)
  /-- a slot; a slot whose own list is given away (it is not changed any more) -/
  | var (i : Nat) | mv (i : Nat)
  /-- a constant of the module -/
  | glob (g : Nat)
  | o1 (o : Op1) (a : E) | o2 (o : Op2) (a b : E) | isN (ng : Bool) (a : E)
  | and (a b : E) | or (a b : E) | not (a : E) | ite (c a b : E)
  | chain (o o' : Op2) (a b c : E)
  | tup (es : E) | lst (es : E)
  | nil | cons (e es : E) | star (e es : E)
  /-- a def's call; one whose first argument is the own list at slot i; one whose first argument is a new list -/
  | call (f : Nat) (es : E) | ocall (f : Nat) (i : Nat) (es : E) | fcall (f : Nat) (e es : E)
  /-- a new instance (its class, its __init__); an attribute by name; a property -/
  | mk (c f : Nat) (es : E) | fld (c : Nat) (k : Str) (o : E) | prop (c : Nat) (k : Str) (f : Nat) (o : E)
  | slice (a lo hi : E)
  /-- comprehensions: the slots of their names, then target, source, test, element -/
  | comp1 (vs : List Nat) (t : Tg) (it cd elt : E)
  | comp2 (vs vs1 : List Nat) (t : Tg) (it cd : E) (t1 : Tg) (it1 cd1 elt : E)
  /-- what is walked -/
  | iSeq (e : E) | iOwn (i : Nat) | iRng1 (a : E) | iRng2 (a b : E) | iEnum (e : E) | iZip (a b : E)
  /-- {k: v, ..}[e], the keys texts -/
  | dsel (ks : List Str) (vs e : E)
  /-- f"..": parts -/
  | fstr (es : E) | fcons (e es : E)
  /-- "..".join(e), a.count(b) -/
  | joinS (a : Str) (e : E) | count (a b : E)
  /-- tuple(range(..)) -/
  | tupR1 (a : E) | tupR2 (a b : E)
inductive AT where
  | nm (i : Nat) | sub (i : Nat) (k : Int)
inductive S where
  | nop | expr (e : E) | asg (t : Tg) (e : E) | own (i : Nat) (e : E) | asgT (ts : List AT) (e : E)
  | par (i : Nat) (oi : Bool) (e : E) (j : Nat) (oj : Bool) (e' : E)
  | setI (i : Nat) (k e : E) | app (i : Nat) (e : E) | ext (i : Nat) (e : E) | setF (c : Nat) (k : Str) (e : E)
  | ret (e : E) | retO (e : E) | retN
  | iff (c : E) (a b : S) | loop (t : Tg) (it : E) (b : S) | whl (c : E) (b : S)
  | raise (c : Nat) (e : E)
  | seq (a b : S) | brk | cont | never

/-! ### the evaluator -/
/-- an operand: a value, or the own list of a slot as it will stand -/
inductive Opd where
  | vl (x : Val) | own (i : Nat)
def Opd.get (ρ : Env) : Opd → Option Val
  | .vl x => some x
  | .own i => match ρ[i]? with
    | some (.ol xs) => some (.lst xs)
    | _ => none
/-- e as an operand, m what it gives as a value -/
def opd (e : E) (m : Env → Res RV) (ρ : Env) : Res Opd := match e with
  | .var i => (match ρ[i]? with
    | some (.v x) => .ok (.vl x) ρ
    | some (.ol _) => .ok (.own i) ρ
    | _ => .stuck)
  | _ => (m ρ).bnd fun r ρ1 => .ok (.vl r.frz) ρ1
def cmpOp : Op2 → Bool
  | .eq | .ne | .lt | .le | .gt | .ge | .inn | .notin => true
  | _ => false
def lift1 (f : Option RV) (ρ : Env) : Res RV := match f with
  | some r => .ok r ρ
  | none => .stuck
def setT (t : Tg) (x : Val) (ρ : Env) : Option Env := match t with
  | .nm i => some (ρ.set i (.v x))
  | .tp is => (match x with
    | .tup _ xs => if xs.length = is.length then some ((is.zip xs).foldl (fun ρ p => ρ.set p.1 (.v p.2)) ρ) else none
    | _ => none)
/-- slots forgotten; slots as they were in ρ0 -/
def wipeE (ρ : Env) : List Nat → Env
  | [] => ρ
  | v :: vs => (wipeE ρ vs).set v .un
def backE (ρ ρ0 : Env) : List Nat → Env
  | [] => ρ
  | v :: vs => (backE ρ ρ0 vs).set v (ρ0.getD v .un)
/-- the turns of a comprehension: each turn gives some items -/
def turns (vs : List Nat) (t : Tg) (body : Env → Res (List Val)) : List Val → Env → Res (List Val)
  | [], ρ => .ok [] ρ
  | x :: xs, ρ => match setT t x (wipeE ρ vs) with
    | none => .stuck
    | some ρ1 => (body ρ1).bnd fun ys ρ2 => (turns vs t body xs ρ2).bnd fun zs ρ3 => .ok (ys ++ zs) ρ3
/-- a list of one's own that was walked is there again -/
def outE (ρ : Env) : E → Env
  | .iOwn i => ρ.set i .un
  | _ => ρ
def lendE (ρ ρ0 : Env) : E → Env
  | .iOwn i => ρ.set i (ρ0.getD i .un)
  | _ => ρ
def noX {α : Type} : Res α → Res α
  | .exc _ _ => .stuck
  | r => r
def isT (c : Res RV) (yes no : Env → Res (List Val)) : Res (List Val) := c.bnd fun r ρ => match r with
  | .val (.bl true) => yes ρ
  | .val (.bl false) => no ρ
  | _ => .stuck
def listLim : Nat := 100000
def rangeV (a : Int) (n : Nat) : List Val := (List.range n).map fun i : Nat => .int (a + i)
def rangeC (a c : Int) (n : Nat) : List Val := (List.range n).map fun i : Nat => .int (a + i * c)
def enumV : Nat → List Val → List Val
  | _, [] => []
  | i, x :: xs => .tup false [.int i, x] :: enumV (i + 1) xs
def zipV : List Val → List Val → List Val
  | x :: xs, y :: ys => .tup false [x, y] :: zipV xs ys
  | _, _ => []
def cutL {α : Type} (xs : List α) (lo hi : Option Int) : List α := (xs.drop (HT.sIx xs.length 0 lo)).take (HT.sIx xs.length xs.length hi - HT.sIx xs.length 0 lo)
def partK (r : RV) (ρ1 : Env) : Res (Option Int) := match r with
  | .val (.int i) => .ok (some i) ρ1
  | _ => .stuck
/-- a slice's end: not written, or an int -/
def partE (e : E) (m : Env → Res RV) (ρ : Env) : Res (Option Int) := match e with
  | .non => .ok none ρ
  | _ => (m ρ).bnd partK
/-- a part of an f-string as a text -/
def fmt1 : Val → Option Str
  | .str s => some s
  | .int i => if i.natAbs.log2 < 1920 then some (toString i) else none
  | _ => none
def ofFR (ρ : Env) (f : Slot → Env) : FR → Res RV
  | .ok r o => .ok r (f o)
  | .exc e o => .exc e (f o)
  | .stuck => .stuck

section
variable (Φ : Fns) (G : Nat → Option Val) (fields : Nat → List Str)
def ev : E → Env → Res RV
  | .non, ρ => .ok (.val .non) ρ
  | .bl b, ρ => .ok (.val (.bl b)) ρ
  | .int i, ρ => .ok (.val (.int i)) ρ
  | .str s, ρ => .ok (.val (.str s)) ρ
  | .var i, ρ => (match ρ[i]? with | some (.v x) => .ok (.val x) ρ | _ => .stuck)
  | .mv i, ρ => (match ρ[i]? with | some (.ol xs) => .ok (.val (.lst xs)) (ρ.set i (.v (.lst xs))) | _ => .stuck)
  | .glob g, ρ => (match G g with | some x => .ok (.val x) ρ | none => .stuck)
  | .isN ng a, ρ => (ev a ρ).bnd fun r ρ1 => .ok (.val (.bl (ng != isNon r))) ρ1
  | .o1 o a, ρ => (opd a (ev a) ρ).bnd fun x ρ1 => (match x.get ρ1 with | some x => lift1 (op1 o x) ρ1 | none => .stuck)
  | .o2 o a b, ρ => (opd a (ev a) ρ).bnd fun x ρ1 => (opd b (ev b) ρ1).bnd fun y ρ2 => (match x.get ρ2, y.get ρ2 with
    | some x, some y => lift1 (op2 o x y) ρ2
    | _, _ => .stuck)
  | .and a b, ρ => (ev a ρ).bnd fun r ρ1 => (match r with
    | .val (.bl true) => ev b ρ1
    | .val (.bl false) => .ok (.val (.bl false)) ρ1
    | _ => .stuck)
  | .or a b, ρ => (ev a ρ).bnd fun r ρ1 => (match r with
    | .val (.bl true) => .ok (.val (.bl true)) ρ1
    | .val (.bl false) => ev b ρ1
    | _ => .stuck)
  | .not a, ρ => (ev a ρ).bnd fun r ρ1 => (match r with
    | .val (.bl b) => .ok (.val (.bl (!b))) ρ1
    | _ => .stuck)
  | .ite c a b, ρ => (ev c ρ).bnd fun r ρ1 => (match r with
    | .val (.bl true) => ev a ρ1
    | .val (.bl false) => ev b ρ1
    | _ => .stuck)
  | .chain o o' a b c, ρ => (opd a (ev a) ρ).bnd fun x ρ1 => (opd b (ev b) ρ1).bnd fun y ρ2 => (match x.get ρ2, y.get ρ2 with
    | some x', some y' => (match op2 o x' y' with
      | some r => (match r with
        | .val (.bl true) => (opd c (ev c) ρ2).bnd fun z ρ3 => (match y.get ρ3, z.get ρ3 with
          | some y', some z' => lift1 (op2 o' y' z') ρ3
          | _, _ => .stuck)
        | .val (.bl false) => .ok (.val (.bl false)) ρ2
        | _ => .stuck)
      | none => .stuck)
    | _, _ => .stuck)
  | .tup es, ρ => (ev es ρ).bnd fun r ρ1 => (match r with
    | .fresh xs => if xs.length ≤ listLim then .ok (.val (.tup true xs)) ρ1 else .stuck
    | _ => .stuck)
  | .lst es, ρ => (ev es ρ).bnd fun r ρ1 => (match r with
    | .fresh xs => if xs.length ≤ listLim then .ok (.fresh xs) ρ1 else .stuck
    | _ => .stuck)
  | .nil, ρ => .ok (.fresh []) ρ
  | .cons e es, ρ => (ev e ρ).bnd fun r ρ1 => (ev es ρ1).bnd fun rs ρ2 => (match rs with
    | .fresh xs => .ok (.fresh (r.frz :: xs)) ρ2
    | _ => .stuck)
  | .star e es, ρ => (ev e ρ).bnd fun r ρ1 => (match itemsOf r.frz with
    | some ys => (ev es ρ1).bnd fun rs ρ2 => (match rs with
      | .fresh xs => .ok (.fresh (ys ++ xs)) ρ2
      | _ => .stuck)
    | none => .stuck)
  | .call f es, ρ => (ev es ρ).bnd fun r ρ1 => (match r with
    | .fresh xs => ofFR ρ1 (fun _ => ρ1) (Φ f .un xs)
    | _ => .stuck)
  | .ocall f i es, ρ => (match ρ[i]? with
    | some (.ol _) => (ev es ρ).bnd fun r ρ1 => (match r, ρ1[i]? with
      | .fresh xs, some (.ol ys) => ofFR ρ1 (fun o => ρ1.set i o) (Φ f (.ol ys) xs)
      | _, _ => .stuck)
    | _ => .stuck)
  | .fcall f e es, ρ => (ev e ρ).bnd fun r0 ρ0 => (ev es ρ0).bnd fun r ρ1 => (match r0, r with
    | .fresh ys, .fresh xs => ofFR ρ1 (fun _ => ρ1) (Φ f (.ol ys) xs)
    | _, _ => .stuck)
  | .mk c f es, ρ => (ev es ρ).bnd fun r ρ1 => (match r with
    | .fresh xs => (match Φ f (.oo c [] []) xs with
      | .ok r o => (match r, o with
        | .val .non, .oo d ks ys => if d = c ∧ ks = fields c then .ok (.val (.ins c ys)) ρ1 else .stuck
        | _, _ => .stuck)
      | .exc e _ => .exc e ρ1
      | .stuck => .stuck)
    | _ => .stuck)
  | .fld c k o, ρ => (ev o ρ).bnd fun r ρ1 => (match r with
    | .val (.ins d xs) => if d = c then (match ((fields c).zip xs).lookup k with | some x => .ok (.val x) ρ1 | none => .stuck) else .stuck
    | _ => .stuck)
  | .prop c _ f o, ρ => (ev o ρ).bnd fun r ρ1 => (match r with
    | .val (.ins d xs) => if d = c then (match Φ f .un [.ins d xs] with | .ok r _ => .ok r ρ1 | _ => .stuck) else .stuck
    | _ => .stuck)
  | .slice a lo hi, ρ => (opd a (ev a) ρ).bnd fun x ρ1 => (partE lo (ev lo) ρ1).bnd fun l ρ2 => (partE hi (ev hi) ρ2).bnd fun h ρ3 => (match x.get ρ3 with
    | some (.tup _ xs) => .ok (.val (.tup false (cutL xs l h))) ρ3
    | some (.lst xs) => .ok (.fresh (cutL xs l h)) ρ3
    | some (.scr xs) => .ok (.fresh (cutL xs l h)) ρ3
    | _ => .stuck)
  | .comp1 vs t it cd elt, ρ => (ev it ρ).bnd fun r ρ1 => (match r with
    | .fresh items => (noX (turns vs t (fun ρ2 => isT (ev cd ρ2) (fun ρ3 => (ev elt ρ3).bnd fun r ρ4 => .ok [r.frz] ρ4) (fun ρ3 => .ok [] ρ3)) items (outE ρ1 it))).bnd fun ys ρ5 =>
        if ys.length ≤ listLim then .ok (.fresh ys) (lendE (backE ρ5 (outE ρ1 it) vs) ρ1 it) else .stuck
    | _ => .stuck)
  | .comp2 vs vs1 t it cd t1 it1 cd1 elt, ρ => (ev it ρ).bnd fun r ρ1 => (match r with
    | .fresh items => (noX (turns vs t (fun ρ2 => isT (ev cd ρ2) (fun ρ3 => (ev it1 ρ3).bnd fun r1 ρ4 => (match r1 with
          | .fresh items1 => (turns vs1 t1 (fun ρ5 => isT (ev cd1 ρ5) (fun ρ6 => (ev elt ρ6).bnd fun r ρ7 => .ok [r.frz] ρ7) (fun ρ6 => .ok [] ρ6)) items1 (outE ρ4 it1))
          | _ => .stuck)) (fun ρ3 => .ok [] ρ3)) items (outE ρ1 it))).bnd fun ys ρ5 =>
        if ys.length ≤ listLim then .ok (.fresh ys) (lendE (backE ρ5 (outE ρ1 it) vs) ρ1 it) else .stuck
    | _ => .stuck)
  | .iSeq e, ρ => (ev e ρ).bnd fun r ρ1 => (match itemsOf r.frz with | some xs => .ok (.fresh xs) ρ1 | none => .stuck)
  | .iOwn i, ρ => (match ρ[i]? with | some (.ol xs) => .ok (.fresh xs) ρ | _ => .stuck)
  | .iRng1 a, ρ => (ev a ρ).bnd fun r ρ1 => (match r with
    | .val (.int n) => if -listLim ≤ n ∧ n ≤ listLim then .ok (.fresh (rangeV 0 n.toNat)) ρ1 else .stuck
    | _ => .stuck)
  | .iRng2 a b, ρ => (ev a ρ).bnd fun r ρ1 => (ev b ρ1).bnd fun r' ρ2 => (match r, r' with
    | .val (.int m), .val (.int n) => if -listLim ≤ m ∧ m ≤ listLim ∧ -listLim ≤ n ∧ n ≤ listLim then .ok (.fresh (rangeV m (n - m).toNat)) ρ2 else .stuck
    | _, _ => .stuck)
  | .iEnum e, ρ => (ev e ρ).bnd fun r ρ1 => (match itemsOf r.frz with | some xs => .ok (.fresh (enumV 0 xs)) ρ1 | none => .stuck)
  | .iZip a b, ρ => (ev a ρ).bnd fun r ρ1 => (ev b ρ1).bnd fun r' ρ2 => (match itemsOf r.frz, itemsOf r'.frz with
    | some xs, some ys => .ok (.fresh (zipV xs ys)) ρ2
    | _, _ => .stuck)
  | .dsel ks vs e, ρ => (ev vs ρ).bnd fun r ρ1 => (ev e ρ1).bnd fun r' ρ2 => (match r, r' with
    | .fresh xs, .val (.str s) => (match (ks.zip xs).lookup s with | some x => if ks.length = xs.length ∧ decide ks.Nodup then .ok (.val x) ρ2 else .stuck | none => .stuck)
    | _, _ => .stuck)
  | .fcons e es, ρ => (ev e ρ).bnd fun r ρ1 => (match fmt1 r.frz with
    | some t => if t.length ≤ 1000 then (ev es ρ1).bnd fun rs ρ2 => (match rs with
        | .fresh xs => .ok (.fresh (.str t :: xs)) ρ2
        | _ => .stuck) else .stuck
    | none => .stuck)
  | .fstr es, ρ => (ev es ρ).bnd fun r ρ1 => (match r with
    | .fresh xs => (match strsOf xs with | some ys => .ok (.val (.str (ys.foldl (· ++ ·) Str.empty))) ρ1 | none => .stuck)
    | _ => .stuck)
  | .joinS a e, ρ => (opd e (ev e) ρ).bnd fun x ρ1 => (match x.get ρ1 with
    | some (.lst xs) => (match strsOf xs with | some ys => (match joinV a ys with | some s => .ok (.val (.str s)) ρ1 | none => .stuck) | none => .stuck)
    | _ => .stuck)
  | .count a b, ρ => (ev a ρ).bnd fun r ρ1 => (match r with
    | .val (.tup true xs) => (ev b ρ1).bnd fun r' ρ2 => (match countV r'.frz xs with | some n => .ok (.val (.int n)) ρ2 | none => .stuck)
    | _ => .stuck)
  | .tupR1 a, ρ => (ev a ρ).bnd fun r ρ1 => (match r with
    | .val (.int n) => if -listLim ≤ n ∧ n ≤ listLim then .ok (.val (.tup false (rangeV 0 n.toNat))) ρ1 else .stuck
    | _ => .stuck)
  | .tupR2 a b, ρ => (ev a ρ).bnd fun r ρ1 => (ev b ρ1).bnd fun r' ρ2 => (match r, r' with
    | .val (.int m), .val (.int n) => if -listLim ≤ m ∧ m ≤ listLim ∧ -listLim ≤ n ∧ n ≤ listLim then .ok (.val (.tup false (rangeV m (n - m).toNat))) ρ2 else .stuck
    | _, _ => .stuck)

/-! ### statements -/
inductive Fl where
  | nx | ret (r : RV) | bk | ct
def loopE (t : Tg) (body : Env → Res Fl) : List Val → Env → Res Fl
  | [], ρ => .ok .nx ρ
  | x :: xs, ρ => match setT t x ρ with
    | none => .stuck
    | some ρ1 => (body ρ1).bnd fun f ρ2 => match f with
      | .nx => loopE t body xs ρ2
      | .ct => loopE t body xs ρ2
      | .bk => .ok .nx ρ2
      | .ret r => .ok (.ret r) ρ2
def whileE (c : Env → Res RV) (body : Env → Res Fl) : Nat → Env → Res Fl
  | 0, _ => .stuck
  | n + 1, ρ => (c ρ).bnd fun r ρ1 => match r with
    | .val (.bl true) => (body ρ1).bnd fun f ρ2 => (match f with
      | .nx => whileE c body n ρ2
      | .ct => whileE c body n ρ2
      | .bk => .ok .nx ρ2
      | .ret r => .ok (.ret r) ρ2)
    | .val (.bl false) => .ok .nx ρ1
    | _ => .stuck
def setAT : List AT → List Val → Env → Option Env
  | [], [], ρ => some ρ
  | .nm i :: ts, x :: xs, ρ => setAT ts xs (ρ.set i (.v x))
  | .sub i k :: ts, x :: xs, ρ => (match ρ[i]? with
    | some (.ol ys) => if 0 ≤ k ∧ k < ys.length then setAT ts xs (ρ.set i (.ol (ys.set k.toNat x))) else none
    | _ => none)
  | _, _, _ => none
/-- what a slot is to hold: a value, or a list of its own -/
def slotOf : Bool → RV → Option Slot
  | false, r => some (.v r.frz)
  | true, .fresh xs => some (.ol xs)
  | true, _ => none
def whileLim : Nat := 1000000
def ex : S → Env → Res Fl
  | .nop, ρ => .ok .nx ρ
  | .expr e, ρ => (ev Φ G fields e ρ).bnd fun _ ρ1 => .ok .nx ρ1
  | .asg t e, ρ => (ev Φ G fields e ρ).bnd fun r ρ1 => (match setT t r.frz ρ1 with | some ρ2 => .ok .nx ρ2 | none => .stuck)
  | .own i e, ρ => (ev Φ G fields e ρ).bnd fun r ρ1 => (match r with | .fresh xs => .ok .nx (ρ1.set i (.ol xs)) | _ => .stuck)
  | .asgT ts e, ρ => (ev Φ G fields e ρ).bnd fun r ρ1 => (match r with
    | .val (.tup _ xs) => (match setAT ts xs ρ1 with | some ρ2 => .ok .nx ρ2 | none => .stuck)
    | _ => .stuck)
  | .par i oi e j oj e', ρ => (ev Φ G fields e ρ).bnd fun r ρ1 => (match slotOf oi r with
    | some s => (ev Φ G fields e' ρ1).bnd fun r' ρ2 => (match slotOf oj r' with
      | some s' => .ok .nx ((ρ2.set i s).set j s')
      | none => .stuck)
    | none => .stuck)
  | .setI i k e, ρ => (ev Φ G fields e ρ).bnd fun r ρ1 => (match ρ1[i]? with
    | some (.ol _) => (ev Φ G fields k ρ1).bnd fun r' ρ2 => (match r', ρ2[i]? with
      | .val (.int k), some (.ol ys) => if 0 ≤ k ∧ k < ys.length then .ok .nx (ρ2.set i (.ol (ys.set k.toNat r.frz))) else .stuck
      | _, _ => .stuck)
    | _ => .stuck)
  | .app i e, ρ => (match ρ[i]? with
    | some (.ol _) => (ev Φ G fields e ρ).bnd fun r ρ1 => (match ρ1[i]? with
      | some (.ol ys) => if ys.length < listLim then .ok .nx (ρ1.set i (.ol (ys ++ [r.frz]))) else .stuck
      | _ => .stuck)
    | _ => .stuck)
  | .ext i e, ρ => (match ρ[i]? with
    | some (.ol _) => (ev Φ G fields e ρ).bnd fun r ρ1 => (match ρ1[i]?, r.frz with
      | some (.ol ys), .lst zs => if ys.length + zs.length ≤ listLim then .ok .nx (ρ1.set i (.ol (ys ++ zs))) else .stuck
      | _, _ => .stuck)
    | _ => .stuck)
  | .setF c k e, ρ => (ev Φ G fields e ρ).bnd fun r ρ1 => (match (ρ1[(0:Nat)]? : Option Slot) with
    | some (.oo d ks xs) => if d = c ∧ ks.length < 100 ∧ k ∉ ks then .ok .nx (ρ1.set 0 (.oo d (ks ++ [k]) (xs ++ [r.frz]))) else .stuck
    | _ => .stuck)
  | .never, _ => .stuck
  | .ret e, ρ => (ev Φ G fields e ρ).bnd fun r ρ1 => .ok (.ret (.val r.frz)) ρ1
  | .retO e, ρ => (ev Φ G fields e ρ).bnd fun r ρ1 => .ok (.ret r) ρ1
  | .retN, ρ => .ok (.ret (.val .non)) ρ
  | .iff c a b, ρ => (ev Φ G fields c ρ).bnd fun r ρ1 => (match r with
    | .val (.bl true) => ex a ρ1
    | .val (.bl false) => ex b ρ1
    | _ => .stuck)
  | .loop t it b, ρ => (ev Φ G fields it ρ).bnd fun r ρ1 => (match r with
    | .fresh items => loopE t (ex b) items ρ1
    | _ => .stuck)
  | .whl c b, ρ => whileE (ev Φ G fields c) (ex b) whileLim ρ
  | .raise c e, ρ => (ev Φ G fields e ρ).bnd fun r ρ1 => .exc ⟨c, some r.frz⟩ ρ1
  | .seq a b, ρ => (ex a ρ).bnd fun f ρ1 => (match f with
    | .nx => ex b ρ1
    | f => .ok f ρ1)
  | .brk, ρ => .ok .bk ρ
  | .cont, ρ => .ok .ct ρ
end

/-! ### defs -/
inductive Kind where
  | plain | ownL | ini
  deriving DecidableEq
structure Def where
  kind : Kind
  /-- how many parameters, how many slots -/
  np : Nat
  ns : Nat
  body : S
def startE (D : Def) (o : Slot) (xs : List Val) : Env := match D.kind with
  | .plain => xs.map Slot.v ++ List.replicate (D.ns - D.np) .un
  | _ => o :: xs.map Slot.v ++ List.replicate (D.ns - D.np) .un
def okStart (D : Def) (o : Slot) (xs : List Val) : Bool := match D.kind, o with
  | .plain, .un => xs.length == D.np
  | .ownL, .ol _ => xs.length + 1 == D.np
  | .ini, .oo _ [] [] => xs.length + 1 == D.np
  | _, _ => false
def endS (D : Def) (ρ : Env) : Slot := match D.kind with
  | .plain => .un
  | _ => ρ.getD 0 .un
def runOne (D : Def) (m : Env → Res Fl) (o : Slot) (xs : List Val) : FR := if okStart D o xs then (match m (startE D o xs) with
  | .ok f ρ => (match f with
    | .nx => .ok (.val .non) (endS D ρ)
    | .ret r => .ok r (endS D ρ)
    | _ => .stuck)
  | .exc e ρ => .exc e (endS D ρ)
  | .stuck => .stuck) else .stuck
def run (G : Nat → Option Val) (fields : Nat → List Str) (defs : List Def) : Nat → Fns
  | 0 => fun _ _ _ => .stuck
  | d + 1 => fun f o xs => match defs[f]? with
    | none => .stuck
    | some D => runOne D (ex (run G fields defs d) G fields D.body) o xs
/-- the first slot is kept -/
def Def.keep (D : Def) : Bool := match D.kind with
  | .plain => false
  | _ => true
end PV
end

section
set_option Elab.async false
set_option linter.all false
set_option autoImplicit false
set_option maxRecDepth 100000
set_option maxHeartbeats 4000000
/-! PV2: how a value lies in the abstract heap; what an evaluation leaves. -/
namespace PV
open PySem L2

/-- what stands fast of the text: the written part, the classes' addresses, their attributes' names, an exception's attribute -/
structure Sta where
  K : PySem.W.Frag
  cl : Nat → Addr
  fields : Nat → List Str
  xname : Nat → Str
  /-- how many classes of one's own there are -/
  ncl : Nat

mutual
/-- the value x at v; F tells what never changes any more -/
def Rep (T : Sta) (F : Hp) : Val → V → Prop
  | .non, v => v = .non
  | .bl b, v => v = .bl b
  | .int i, v => v = .int i
  | .str s, v => v = .str s
  | .tup d xs, v => ∃ a vs, v = .ref a ∧ (SqT T.K F a vs ∧ (d = true → ∃ o, F a = some (.frz o (.tup vs)) ∧ o.dict = none)) ∧ Reps T F xs vs
  | .lst xs, v => ∃ a vs, v = .ref a ∧ F a = some (.lst vs) ∧ Reps T F xs vs
  | .scr xs, v => ∃ a vs, v = .ref a ∧ SqL T.K F a vs ∧ Reps T F xs vs
  | .st is, v => ∃ a S n, v = .ref a ∧ F a = some (.set S n) ∧ ∀ i, S i = is.any (· == i)
  | .ins c xs, v => ∃ a dx vs, v = .ref a ∧ F a = some (.ins (T.cl c) dx ((T.fields c).zip vs)) ∧ (vs.length = (T.fields c).length ∧ c < T.ncl) ∧ Reps T F xs vs
def Reps (T : Sta) (F : Hp) : List Val → List V → Prop
  | [], vs => vs = []
  | x :: xs, vs => ∃ v ws, vs = v :: ws ∧ Rep T F x v ∧ Reps T F xs ws
end

def Le (F H : Hp) : Prop := ∀ a o, F a = some o → H a = some o
theorem Le.refl (F : Hp) : Le F F := fun _ _ h => h
theorem Le.trans {F G H : Hp} (a : Le F G) (b : Le G H) : Le F H := fun x o h => b x o (a x o h)
theorem Le.rd {F H : Hp} (e : Le F H) {a : Addr} {u : HO} (h : Rd F a u) : Rd H a u := by
  rcases h with h | ⟨o, h⟩
  · exact .inl (e a _ h)
  · exact .inr ⟨o, e a _ h⟩
theorem Le.sql {K : PySem.W.Frag} {F H : Hp} (e : Le F H) {a : Addr} {xs : List V} (h : SqL K F a xs) : SqL K H a xs := by
  rcases h with h | h
  · exact .inl (e.rd h)
  · exact .inr h
theorem Le.sqt {K : PySem.W.Frag} {F H : Hp} (e : Le F H) {a : Addr} {xs : List V} (h : SqT K F a xs) : SqT K H a xs := by
  rcases h with h | h
  · exact .inl (e.rd h)
  · exact .inr h
theorem Le.new {F : Hp} {p : Addr} {o : HO} (h : F p = none) : Le F (upd F p o) := fun a u e => by
  rw [upd_ne (ne_of_none e h)]
  exact e

section
variable {T : Sta} {F G H : Hp}
mutual
theorem Rep.mono (e : Le F G) : ∀ (x : Val) (v : V), Rep T F x v → Rep T G x v
  | .non, v, h => h
  | .bl _, v, h => h
  | .int _, v, h => h
  | .str _, v, h => h
  | .tup _ xs, v, ⟨a, vs, h1, h2, h3⟩ => ⟨a, vs, h1, ⟨e.sqt h2.1, fun hd => let ⟨o, q, w⟩ := h2.2 hd; ⟨o, e _ _ q, w⟩⟩, Reps.mono e xs vs h3⟩
  | .lst xs, v, ⟨a, vs, h1, h2, h3⟩ => ⟨a, vs, h1, e _ _ h2, Reps.mono e xs vs h3⟩
  | .scr xs, v, ⟨a, vs, h1, h2, h3⟩ => ⟨a, vs, h1, e.sql h2, Reps.mono e xs vs h3⟩
  | .st _, v, ⟨a, S, n, h1, h2, h3⟩ => ⟨a, S, n, h1, e _ _ h2, h3⟩
  | .ins c xs, v, ⟨a, dx, vs, h1, h2, h4, h3⟩ => ⟨a, dx, vs, h1, e _ _ h2, h4, Reps.mono e xs vs h3⟩
theorem Reps.mono (e : Le F G) : ∀ (xs : List Val) (vs : List V), Reps T F xs vs → Reps T G xs vs
  | [], vs, h => h
  | x :: xs, vs, ⟨v, ws, h1, h2, h3⟩ => ⟨v, ws, h1, Rep.mono e x v h2, Reps.mono e xs ws h3⟩
end
theorem Reps.len : ∀ {xs : List Val} {vs : List V}, Reps T F xs vs → vs.length = xs.length
  | [], vs, h => by rw [show vs = [] from h]; rfl
  | x :: xs, vs, ⟨v, ws, h1, _, h3⟩ => by rw [h1, List.length_cons, List.length_cons, Reps.len h3]
theorem Reps.get : ∀ {xs : List Val} {vs : List V} {i : Nat} {x : Val}, Reps T F xs vs → xs[i]? = some x → ∃ v, vs[i]? = some v ∧ Rep T F x v
  | [], _, _, _, _, e => by simp at e
  | y :: xs, vs, 0, x, ⟨v, ws, h1, h2, _⟩, e => by
    simp at e; subst e; subst h1
    exact ⟨v, rfl, h2⟩
  | y :: xs, vs, i + 1, x, ⟨v, ws, h1, _, h3⟩, e => by
    subst h1
    obtain ⟨u, a, b⟩ := Reps.get (i := i) (x := x) h3 (by simpa using e)
    exact ⟨u, by simpa using a, b⟩
theorem Reps.get' : ∀ {xs : List Val} {vs : List V} {i : Nat} {v : V}, Reps T F xs vs → vs[i]? = some v → ∃ x, xs[i]? = some x ∧ Rep T F x v
  | [], vs, _, _, h, e => by rw [show vs = [] from h] at e; simp at e
  | y :: xs, vs, 0, x, ⟨v, ws, h1, h2, _⟩, e => by
    subst h1; simp at e; subst e
    exact ⟨y, rfl, h2⟩
  | y :: xs, vs, i + 1, x, ⟨v, ws, h1, _, h3⟩, e => by
    subst h1
    obtain ⟨u, a, b⟩ := Reps.get' (i := i) (v := x) h3 (by simpa using e)
    exact ⟨u, by simpa using a, b⟩
theorem Reps.append : ∀ {xs ys : List Val} {vs ws : List V}, Reps T F xs vs → Reps T F ys ws → Reps T F (xs ++ ys) (vs ++ ws)
  | [], ys, vs, ws, h, k => by rw [show vs = [] from h]; exact k
  | x :: xs, ys, vs, ws, ⟨v, us, h1, h2, h3⟩, k => by subst h1; exact ⟨v, us ++ ws, rfl, h2, Reps.append h3 k⟩
theorem Reps.one {x : Val} {v : V} (h : Rep T F x v) : Reps T F [x] [v] := ⟨v, [], rfl, h, rfl⟩
theorem Reps.take : ∀ {xs : List Val} {vs : List V} (n : Nat), Reps T F xs vs → Reps T F (xs.take n) (vs.take n)
  | [], vs, n, h => by rw [show vs = [] from h]; simp only [List.take_nil]; rfl
  | x :: xs, vs, 0, _ => by simp only [List.take_zero]; rfl
  | x :: xs, vs, n + 1, ⟨v, us, h1, h2, h3⟩ => by subst h1; exact ⟨v, us.take n, rfl, h2, Reps.take n h3⟩
theorem Reps.drop : ∀ {xs : List Val} {vs : List V} (n : Nat), Reps T F xs vs → Reps T F (xs.drop n) (vs.drop n)
  | [], vs, n, h => by rw [show vs = [] from h]; simp only [List.drop_nil]; rfl
  | x :: xs, vs, 0, h => h
  | x :: xs, vs, n + 1, ⟨v, us, h1, h2, h3⟩ => by subst h1; exact Reps.drop n h3
theorem Reps.set : ∀ {xs : List Val} {vs : List V} (n : Nat) {x : Val} {v : V}, Reps T F xs vs → Rep T F x v → Reps T F (xs.set n x) (vs.set n v)
  | [], vs, n, _, _, h, _ => by rw [show vs = [] from h]; exact rfl
  | y :: xs, vs, 0, x, v, ⟨u, us, h1, h2, h3⟩, k => by subst h1; exact ⟨v, us, rfl, k, h3⟩
  | y :: xs, vs, n + 1, x, v, ⟨u, us, h1, h2, h3⟩, k => by subst h1; exact ⟨u, us.set n v, rfl, h2, Reps.set n h3 k⟩
theorem Reps.ints : ∀ {is : List Int} {vs : List V}, Reps T F (is.map Val.int) vs → vs = is.map V.int
  | [], vs, h => h
  | i :: is, vs, ⟨v, us, h1, h2, h3⟩ => by rw [h1, show v = .int i from h2, Reps.ints h3]; rfl
theorem Reps.ofInts : ∀ (is : List Int), Reps T F (is.map Val.int) (is.map V.int)
  | [] => rfl
  | i :: is => ⟨.int i, is.map V.int, rfl, rfl, Reps.ofInts is⟩
end

/-! ### a step: the fixed heap grows, the heap grows; what is not one's own stays -/
structure Tr (F H : Hp) (O : Addr → Prop) (F' H' : Hp) : Prop where
  ff : Le F F'
  fh : Le F' H'
  hh : ∀ a o, H a = some o → ¬ O a → H' a = some o
  nw : ∀ a, H a ≠ none → ¬ O a → F a = none → F' a = none
  th : ∀ a, H a ≠ none → H' a ≠ none

theorem Tr.refl {F H : Hp} {O : Addr → Prop} (h : Le F H) : Tr F H O F H := ⟨Le.refl F, h, fun _ _ e _ => e, fun _ _ _ e => e, fun _ h => h⟩
theorem Tr.trans {F H F1 H1 F2 H2 : Hp} {O O1 : Addr → Prop} (a : Tr F H O F1 H1) (b : Tr F1 H1 O1 F2 H2) (s : ∀ x, O1 x → O x ∨ H x = none) : Tr F H O F2 H2 := by
  refine ⟨a.ff.trans b.ff, b.fh, fun x o e n => ?_, fun x e n f => ?_, fun x e => b.th x (a.th x e)⟩
  · refine b.hh x o (a.hh x o e n) fun o1 => ?_
    rcases s x o1 with h | h
    · exact n h
    · rw [e] at h; cases h
  · refine b.nw x (a.th x e) (fun o1 => ?_) (a.nw x e n f)
    rcases s x o1 with h | h
    · exact n h
    · exact e h
theorem Tr.wide {F H F1 H1 : Hp} {O O1 : Addr → Prop} (a : Tr F H O F1 H1) (s : ∀ x, O x → O1 x) : Tr F H O1 F1 H1 :=
  ⟨a.ff, a.fh, fun x o e n => a.hh x o e fun h => n (s x h), fun x e n f => a.nw x e (fun h => n (s x h)) f, a.th⟩
/-- nothing of one's own -/
abbrev noO : Addr → Prop := fun _ => False
theorem Tr.any {F H F1 H1 : Hp} {O : Addr → Prop} (a : Tr F H noO F1 H1) : Tr F H O F1 H1 := a.wide fun _ h => h.elim
theorem Tr.le {F H F1 H1 : Hp} (a : Tr F H noO F1 H1) : Le H H1 := fun x o e => a.hh x o e fun h => h
/-- a new object, fixed at once -/
theorem Tr.new {F H : Hp} {p : Addr} {o : HO} (le : Le F H) (h : H p = none) : Tr F H noO (upd F p o) (upd H p o) := by
  have hf : F p = none := by
    cases e : F p with
    | none => rfl
    | some u => rw [le p u e] at h; cases h
  refine ⟨Le.new hf, fun a u e => ?_, fun a u e _ => ?_, fun a e _ f => ?_, fun a e => ?_⟩
  · unfold upd at e ⊢
    by_cases ha : a = p
    · rw [if_pos ha] at e ⊢; exact e
    · rw [if_neg ha] at e ⊢; exact le a u e
  · rw [upd_ne (ne_of_none e h)]; exact e
  · have : a ≠ p := fun z => e (by rw [z]; exact h)
    rw [upd_ne this]; exact f
  · have : a ≠ p := fun z => e (by rw [z]; exact h)
    rw [upd_ne this]; exact e
/-- a new object, not fixed -/
theorem Tr.newH {F H : Hp} {p : Addr} {o : HO} (le : Le F H) (h : H p = none) : Tr F H noO F (upd H p o) := by
  refine ⟨Le.refl F, fun a u e => ?_, fun a u e _ => ?_, fun a e _ f => f, fun a e => ?_⟩
  · rw [upd_ne (ne_of_none (le a u e) h)]; exact le a u e
  · rw [upd_ne (ne_of_none e h)]; exact e
  · have : a ≠ p := fun z => e (by rw [z]; exact h)
    rw [upd_ne this]; exact e
theorem Le.none_of {F H : Hp} (le : Le F H) {p : Addr} (h : H p = none) : F p = none := by
  cases e : F p with
  | none => rfl
  | some u => rw [le p u e] at h; cases h

/-! ### the slots -/
def SlotOk (T : Sta) (F H : Hp) (o : Option V) : Slot → Prop
  | .un => True
  | .v x => ∃ v, o = some v ∧ Rep T F x v
  | .ol xs => ∃ a vs, o = some (.ref a) ∧ H a = some (.lst vs) ∧ F a = none ∧ Reps T F xs vs
  | .oo c ks xs => ∃ a dx vs, o = some (.ref a) ∧ H a = some (.ins (T.cl c) dx (ks.zip vs)) ∧ F a = none ∧ vs.length = ks.length ∧ Reps T F xs vs
def isOwn : Slot → Bool
  | .ol _ => true
  | .oo _ _ _ => true
  | _ => false
/-- slot i holds the own object at a -/
def OwnAt (σ : L2.St) (ρ : Env) (i : Nat) (a : Addr) : Prop := ∃ s, ρ[i]? = some s ∧ isOwn s = true ∧ σ[i]? = some (some (.ref a))
def Own (σ : L2.St) (ρ : Env) (a : Addr) : Prop := ∃ i, OwnAt σ ρ i a
structure REnv (T : Sta) (F H : Hp) (σ : L2.St) (ρ : Env) : Prop where
  le : Le F H
  len : σ.length = ρ.length
  sl : ∀ (i : Nat) (s : Slot), ρ[i]? = some s → SlotOk T F H (σ[i]?.join) s
  dj : ∀ i j a, OwnAt σ ρ i a → OwnAt σ ρ j a → i = j

theorem SlotOk.step {T : Sta} {F H F' H' : Hp} {o : Option V} {s : Slot} (t : Tr F H noO F' H') (h : SlotOk T F H o s) : SlotOk T F' H' o s := by
  cases s with
  | un => trivial
  | v x => obtain ⟨v, e, r⟩ := h; exact ⟨v, e, r.mono t.ff⟩
  | ol xs =>
    obtain ⟨a, vs, e, h1, h2, r⟩ := h
    exact ⟨a, vs, e, t.le a _ h1, t.nw a (by rw [h1]; simp) (fun z => z) h2, r.mono t.ff⟩
  | oo c ks xs =>
    obtain ⟨a, dx, vs, e, h1, h2, h3, r⟩ := h
    exact ⟨a, dx, vs, e, t.le a _ h1, t.nw a (by rw [h1]; simp) (fun z => z) h2, h3, r.mono t.ff⟩
theorem REnv.step {T : Sta} {F H F' H' : Hp} {σ : L2.St} {ρ : Env} (R : REnv T F H σ ρ) (t : Tr F H noO F' H') : REnv T F' H' σ ρ :=
  ⟨t.fh, R.len, fun i s e => (R.sl i s e).step t, R.dj⟩
theorem REnv.own_at {T : Sta} {F H : Hp} {σ : L2.St} {ρ : Env} (R : REnv T F H σ ρ) {i : Nat} {a : Addr} (h : OwnAt σ ρ i a) : H a ≠ none ∧ F a = none := by
  obtain ⟨s, e, o, z⟩ := h
  have k := R.sl i s e
  cases s with
  | un => cases o
  | v x => cases o
  | ol xs =>
    obtain ⟨b, vs, e1, h1, h2, _⟩ := k
    rw [z] at e1
    cases e1
    exact ⟨by rw [h1]; simp, h2⟩
  | oo c ks xs =>
    obtain ⟨b, dx, vs, e1, h1, h2, _⟩ := k
    rw [z] at e1
    cases e1
    exact ⟨by rw [h1]; simp, h2⟩
theorem REnv.own {T : Sta} {F H : Hp} {σ : L2.St} {ρ : Env} (R : REnv T F H σ ρ) {a : Addr} (h : Own σ ρ a) : H a ≠ none ∧ F a = none := let ⟨_, h⟩ := h; R.own_at h

/-- what an expression's evaluation leaves -/
structure Ste (T : Sta) (F H : Hp) (σ : L2.St) (ρ : Env) (F' H' : Hp) (ρ' : Env) : Prop where
  tr : Tr F H (Own σ ρ) F' H'
  en : REnv T F' H' σ ρ'
  sb : ∀ i a, OwnAt σ ρ' i a → OwnAt σ ρ i a
theorem Ste.sub {T : Sta} {F H F' H' : Hp} {σ : L2.St} {ρ ρ' : Env} (s : Ste T F H σ ρ F' H' ρ') : ∀ a, Own σ ρ' a → Own σ ρ a := fun a ⟨i, h⟩ => ⟨i, s.sb i a h⟩
theorem Ste.refl {T : Sta} {F H : Hp} {σ : L2.St} {ρ : Env} (R : REnv T F H σ ρ) : Ste T F H σ ρ F H ρ := ⟨Tr.refl R.le, R, fun _ _ h => h⟩
theorem Ste.trans {T : Sta} {F H F1 H1 F2 H2 : Hp} {σ : L2.St} {ρ ρ1 ρ2 : Env} (a : Ste T F H σ ρ F1 H1 ρ1) (b : Ste T F1 H1 σ ρ1 F2 H2 ρ2) : Ste T F H σ ρ F2 H2 ρ2 :=
  ⟨a.tr.trans b.tr fun x h => .inl (a.sub x h), b.en, fun i x h => a.sb i x (b.sb i x h)⟩
theorem Ste.more {T : Sta} {F H F1 H1 F2 H2 : Hp} {σ : L2.St} {ρ ρ1 : Env} (a : Ste T F H σ ρ F1 H1 ρ1) (t : Tr F1 H1 noO F2 H2) : Ste T F H σ ρ F2 H2 ρ1 :=
  ⟨a.tr.trans t fun x h => h.elim, a.en.step t, a.sb⟩
theorem Ste.nonOf {T : Sta} {F H F1 H1 : Hp} {σ : L2.St} {ρ ρ1 : Env} (a : Ste T F H σ ρ F1 H1 ρ1) {p : Addr} (h : H1 p = none) : H p = none := by
  cases e : H p with
  | none => rfl
  | some o => exact absurd h (a.tr.th p (by rw [e]; simp))

/-- what a result is: a value, or a new list at p (p new since H0) -/
def RepR (T : Sta) (H0 F H : Hp) : RV → V → Prop
  | .val x, v => Rep T F x v
  | .fresh xs, v => ∃ p vs, v = .ref p ∧ H0 p = none ∧ F p = none ∧ H p = some (.lst vs) ∧ Reps T F xs vs
/-- an exception: its class, its dict -/
def ExcAt (T : Sta) (F H : Hp) (e : Exn) (cls : Value) (d : Option Addr) : Prop :=
  cls = .ref (T.cl e.c) ∧ match e.x with
    | some x => ∃ dd v, d = some dd ∧ H dd = some (.xd [(T.xname e.c, v)]) ∧ F dd = some (.xd [(T.xname e.c, v)]) ∧ Rep T F x v
    | none => True

/-- what is wanted behind an evaluation -/
def Post {α : Type} (T : Sta) (W : WX) (F H : Hp) (σ : L2.St) (ρ : Env) (m : Res α) (P : α → Env → Hp → Hp → Prop) : Prop := match m with
  | .ok a ρ' => ∀ F' H', Ste T F H σ ρ F' H' ρ' → P a ρ' F' H'
  | .exc e ρ' => ∀ F' H' cls d, Ste T F H σ ρ F' H' ρ' → ExcAt T F' H' e cls d → W cls d σ H'
  | .stuck => False
section
variable {α β : Type} {T : Sta} {W : WX} {F H F1 H1 : Hp} {σ : L2.St} {ρ ρ1 : Env} {m : Res α}
theorem Post.mono {P P' : α → Env → Hp → Hp → Prop} (h : Post T W F H σ ρ m P) (k : ∀ a ρ' F' H', Ste T F H σ ρ F' H' ρ' → P a ρ' F' H' → P' a ρ' F' H') : Post T W F H σ ρ m P' := by
  cases m with
  | ok a ρ' => exact fun F' H' s => k a ρ' F' H' s (h F' H' s)
  | exc e ρ' => exact h
  | stuck => exact h
theorem Post.shift {P : α → Env → Hp → Hp → Prop} (s : Ste T F H σ ρ F1 H1 ρ1) (h : Post T W F H σ ρ m P) : Post T W F1 H1 σ ρ1 m P := by
  cases m with
  | ok a ρ' => exact fun F' H' s' => h F' H' (s.trans s')
  | exc e ρ' => exact fun F' H' cls d s' x => h F' H' cls d (s.trans s') x
  | stuck => exact h
/-- the first half of a sequence -/
theorem Post.bnd {f : α → Env → Res β} {P : β → Env → Hp → Hp → Prop} (h : Post T W F H σ ρ (m.bnd f) P) :
    Post T W F H σ ρ m fun a ρ1 F1 H1 => Ste T F H σ ρ F1 H1 ρ1 ∧ Post T W F1 H1 σ ρ1 (f a ρ1) P := by
  cases m with
  | ok a ρ' => exact fun F' H' s => ⟨s, Post.shift s h⟩
  | exc e ρ' => exact h
  | stuck => exact h
end
theorem Ste.newF {T : Sta} {F H F1 H1 : Hp} {σ : L2.St} {ρ ρ1 : Env} (a : Ste T F H σ ρ F1 H1 ρ1) {p : Addr} {o : HO} (h : H1 p = none) : Ste T F H σ ρ (upd F1 p o) (upd H1 p o) ρ1 := a.more (Tr.new a.en.le h)
theorem Ste.newH {T : Sta} {F H F1 H1 : Hp} {σ : L2.St} {ρ ρ1 : Env} (a : Ste T F H σ ρ F1 H1 ρ1) {p : Addr} {o : HO} (h : H1 p = none) : Ste T F H σ ρ F1 (upd H1 p o) ρ1 := a.more (Tr.newH a.en.le h)
/-- a new object is fixed -/
theorem Ste.fix {T : Sta} {F H F1 H1 : Hp} {σ : L2.St} {ρ ρ1 : Env} (R : REnv T F H σ ρ) (a : Ste T F H σ ρ F1 H1 ρ1) {p : Addr} {o : HO} (h0 : H p = none) (h1 : H1 p = some o) (h2 : F1 p = none) :
    Ste T F H σ ρ (upd F1 p o) H1 ρ1 := by
  have le : Le F1 (upd F1 p o) := Le.new h2
  have le2 : Le (upd F1 p o) H1 := fun b u e => by
    unfold upd at e
    by_cases hb : b = p
    · rw [if_pos hb] at e; cases e; rw [hb]; exact h1
    · rw [if_neg hb] at e; exact a.en.le b u e
  have np : ∀ b, H b ≠ none → b ≠ p := fun b e z => e (by rw [z]; exact h0)
  have no : ∀ i b, OwnAt σ ρ1 i b → b ≠ p := fun i b h => np b (R.own_at (a.sb i b h)).1
  refine ⟨⟨a.tr.ff.trans le, le2, a.tr.hh, fun b e n f => ?_, a.tr.th⟩, ⟨le2, a.en.len, fun i s e => ?_, a.en.dj⟩, a.sb⟩
  · rw [upd_ne (np b e)]; exact a.tr.nw b e n f
  · have k := a.en.sl i s e
    cases s with
    | un => trivial
    | v x => obtain ⟨v, e1, r⟩ := k; exact ⟨v, e1, r.mono le⟩
    | ol xs =>
      obtain ⟨b, vs, e1, h1', h2', r⟩ := k
      have hb : b ≠ p := no i b ⟨_, e, rfl, by
        cases z : σ[i]? with
        | none => rw [z] at e1; cases e1
        | some w => rw [z] at e1; exact congrArg some e1⟩
      exact ⟨b, vs, e1, h1', by rw [upd_ne hb]; exact h2', r.mono le⟩
    | oo c ks xs =>
      obtain ⟨b, dx, vs, e1, h1', h2', h3', r⟩ := k
      have hb : b ≠ p := no i b ⟨_, e, rfl, by
        cases z : σ[i]? with
        | none => rw [z] at e1; cases e1
        | some w => rw [z] at e1; exact congrArg some e1⟩
      exact ⟨b, dx, vs, e1, h1', by rw [upd_ne hb]; exact h2', h3', r.mono le⟩
/-- a result as a value -/
theorem RepR.frz {T : Sta} {F H F1 H1 : Hp} {σ : L2.St} {ρ ρ1 : Env} {r : RV} {v : V} (R : REnv T F H σ ρ) (a : Ste T F H σ ρ F1 H1 ρ1) (h : RepR T H F1 H1 r v) :
    ∃ F2, Ste T F H σ ρ F2 H1 ρ1 ∧ Le F1 F2 ∧ Rep T F2 r.frz v := by
  cases r with
  | val x => exact ⟨F1, a, Le.refl _, h⟩
  | fresh xs =>
    obtain ⟨p, vs, e, h0, h2, h1, r⟩ := h
    refine ⟨upd F1 p (.lst vs), a.fix R h0 h1 h2, Le.new h2, ⟨p, vs, e, upd_same, r.mono (Le.new h2)⟩⟩

/-- a value as an operation sees it: a list may be the frame's own -/
def RepB (T : Sta) (F H : Hp) : Val → V → Prop
  | .lst xs, v => ∃ a vs, v = .ref a ∧ H a = some (.lst vs) ∧ Reps T F xs vs
  | x, v => Rep T F x v
theorem RepB.of {T : Sta} {F H : Hp} (le : Le F H) {x : Val} {v : V} (h : Rep T F x v) : RepB T F H x v := by
  cases x with
  | lst xs => obtain ⟨a, vs, e, k, r⟩ := h; exact ⟨a, vs, e, le _ _ k, r⟩
  | _ => exact h
/-- an operand at σ -/
def RepO (T : Sta) (F : Hp) (σ : L2.St) : Opd → V → Prop
  | .vl x, v => Rep T F x v
  | .own i, v => σ[i]? = some (some v)
theorem RepO.mono {T : Sta} {F G : Hp} {σ : L2.St} (e : Le F G) {o : Opd} {v : V} (h : RepO T F σ o v) : RepO T G σ o v := by
  cases o with
  | vl x => exact Rep.mono e x v h
  | own i => exact h
theorem RepO.get {T : Sta} {F H : Hp} {σ : L2.St} {ρ : Env} (R : REnv T F H σ ρ) {o : Opd} {v : V} {x : Val} (h : RepO T F σ o v) (g : o.get ρ = some x) : RepB T F H x v := by
  cases o with
  | vl y =>
    have e : y = x := Option.some.inj g
    subst e
    exact RepB.of R.le h
  | own i =>
    cases e : ρ[i]? with
    | none => simp only [Opd.get, e] at g; cases g
    | some s =>
      simp only [Opd.get, e] at g
      cases s with
      | ol xs =>
        cases g
        obtain ⟨a, vs, e1, h1, _, r⟩ := R.sl i _ e
        have h' : σ[i]? = some (some v) := h
        rw [h'] at e1
        cases e1
        exact ⟨a, vs, rfl, h1, r⟩
      | un => cases g
      | v _ => cases g
      | oo _ _ _ => cases g
/-- what an operation on values asks: for all that it may give, what is wanted -/
def Wants (T : Sta) (F H : Hp) (r : RV) (Q : VK) : Prop := ∀ F' H' v, Tr F H noO F' H' → RepR T H F' H' r v → Q v H'
end PV
end

section
set_option Elab.async false
set_option linter.all false
set_option autoImplicit false
set_option maxRecDepth 100000
set_option maxHeartbeats 4000000
/-! PV3: the operations, by values. -/
namespace PV
open PySem PySem.Spec PyProof.Rows L2

theorem sz100 {n : Nat} (h : n ≤ 100000) : n ≤ sizeLine := Nat.le_trans h (by decide)
section
variable {T : Sta} {F H : Hp} {Q : VK}
theorem Wants.now {x : Val} {v : V} (w : Wants T F H (.val x) Q) (le : Le F H) (h : Rep T F x v) : Q v H := w F H v (Tr.refl le) h
theorem Wants.tup {xs : List Val} {vs : List V} {p : Addr} (w : Wants T F H (.val (.tup false xs)) Q) (le : Le F H) (h : Reps T F xs vs) (hp : H p = none) : Q (.ref p) (upd H p (.tup vs)) :=
  w (upd F p (.tup vs)) _ _ (Tr.new le hp) ⟨p, vs, rfl, ⟨.inl (.inl upd_same), fun z => nomatch z⟩, h.mono (Le.new (le.none_of hp))⟩
theorem Wants.lst {xs : List Val} {vs : List V} {p : Addr} (w : Wants T F H (.fresh xs) Q) (le : Le F H) (h : Reps T F xs vs) (hp : H p = none) : Q (.ref p) (upd H p (.lst vs)) :=
  w F _ _ (Tr.newH le hp) ⟨p, vs, rfl, hp, le.none_of hp, upd_same, h⟩

theorem RepB.items (le : Le F H) {x : Val} {v : V} {xs : List Val} (h : RepB T F H x v) (e : itemsOf x = some xs) : ∃ a vs, v = .ref a ∧ (SqL T.K H a vs ∨ SqT T.K H a vs) ∧ Reps T F xs vs := by
  cases x with
  | tup d ys => cases e; obtain ⟨a, vs, e1, h1, r⟩ := h; exact ⟨a, vs, e1, .inr (le.sqt h1.1), r⟩
  | lst ys => cases e; obtain ⟨a, vs, e1, h1, r⟩ := h; exact ⟨a, vs, e1, .inl (SqL.of h1), r⟩
  | scr ys => cases e; obtain ⟨a, vs, e1, h1, r⟩ := h; exact ⟨a, vs, e1, .inl (le.sql h1), r⟩
  | _ => cases e
theorem ints_of : ∀ {xs : List Val} {is : List Int}, PV.intsOf xs = some is → xs = is.map Val.int
  | [], is, h => by cases h; rfl
  | .int i :: r, is, h => by
    simp only [PV.intsOf] at h
    split at h
    · rename_i js e
      cases h
      rw [ints_of e]; rfl
    · cases h
  | .non :: _, _, h => by cases h
  | .bl _ :: _, _, h => by cases h
  | .str _ :: _, _, h => by cases h
  | .tup _ _ :: _, _, h => by cases h
  | .lst _ :: _, _, h => by cases h
  | .scr _ :: _, _, h => by cases h
  | .st _ :: _, _, h => by cases h
  | .ins _ _ :: _, _, h => by cases h
theorem bools_of : ∀ {xs : List Val} {bs : List Bool}, boolsOf xs = some bs → xs = bs.map Val.bl
  | [], bs, h => by cases h; rfl
  | .bl i :: r, is, h => by
    simp only [boolsOf] at h
    split at h
    · rename_i js e
      cases h
      rw [bools_of e]; rfl
    · cases h
  | .non :: _, _, h => by cases h
  | .int _ :: _, _, h => by cases h
  | .str _ :: _, _, h => by cases h
  | .tup _ _ :: _, _, h => by cases h
  | .lst _ :: _, _, h => by cases h
  | .scr _ :: _, _, h => by cases h
  | .st _ :: _, _, h => by cases h
  | .ins _ _ :: _, _, h => by cases h
theorem strs_of : ∀ {xs : List Val} {bs : List Str}, strsOf xs = some bs → xs = bs.map Val.str
  | [], bs, h => by cases h; rfl
  | .str i :: r, is, h => by
    simp only [strsOf] at h
    split at h
    · rename_i js e
      cases h
      rw [strs_of e]; rfl
    · cases h
  | .non :: _, _, h => by cases h
  | .int _ :: _, _, h => by cases h
  | .bl _ :: _, _, h => by cases h
  | .tup _ _ :: _, _, h => by cases h
  | .lst _ :: _, _, h => by cases h
  | .scr _ :: _, _, h => by cases h
  | .st _ :: _, _, h => by cases h
  | .ins _ _ :: _, _, h => by cases h
theorem Reps.bools : ∀ {is : List Bool} {vs : List V}, Reps T F (is.map Val.bl) vs → vs = is.map V.bl
  | [], vs, h => h
  | i :: is, vs, ⟨v, us, h1, h2, h3⟩ => by rw [h1, show v = .bl i from h2, Reps.bools h3]; rfl
theorem Reps.strs : ∀ {is : List Str} {vs : List V}, Reps T F (is.map Val.str) vs → vs = is.map V.str
  | [], vs, h => h
  | i :: is, vs, ⟨v, us, h1, h2, h3⟩ => by rw [h1, show v = .str i from h2, Reps.strs h3]; rfl

/-! ### plain data -/
mutual
theorem Rep.dp : ∀ {x : Val} {v : V} {d : PyData}, Rep T H x v → x.toD = some d → Dp T.K H v d
  | .non, v, d, h, e => by cases e; rw [show v = .non from h]; exact .non
  | .bl b, v, d, h, e => by cases e; rw [show v = .bl b from h]; exact .bl b
  | .int b, v, d, h, e => by cases e; rw [show v = .int b from h]; exact .int b
  | .str b, v, d, h, e => by cases e; rw [show v = .str b from h]; exact .str b
  | .tup _ xs, v, d, ⟨a, vs, e1, ⟨h1, _⟩, r⟩, e => by
    simp only [Val.toD] at e
    split at e
    · rename_i ds e2
      cases e
      rw [e1]
      exact .tup h1 (Reps.dp r e2)
    · cases e
  | .lst xs, v, d, ⟨a, vs, e1, h1, r⟩, e => by
    simp only [Val.toD] at e
    split at e
    · rename_i ds e2
      cases e
      rw [e1]
      exact .lst (SqL.of h1) (Reps.dp r e2)
    · cases e
  | .scr _, _, _, _, e => by cases e
  | .st _, _, _, _, e => by cases e
  | .ins _ _, _, _, _, e => by cases e
theorem Reps.dp : ∀ {xs : List Val} {vs : List V} {ds : List PyData}, Reps T H xs vs → Val.toDs xs = some ds → DpAll T.K H vs ds
  | [], vs, ds, h, e => by cases e; rw [show vs = [] from h]; exact .nil
  | x :: xs, vs, ds, ⟨v, ws, h1, h2, h3⟩, e => by
    simp only [Val.toDs] at e
    split at e
    · rename_i d e1
      split at e
      · rename_i ds' e2
        cases e
        rw [h1]
        exact .cons (Rep.dp h2 e1) (Reps.dp h3 e2)
      · cases e
    · cases e
end
theorem RepB.dp (le : Le F H) {x : Val} {v : V} {d : PyData} (h : RepB T F H x v) (e : x.toD = some d) : Dp T.K H v d := by
  cases x with
  | lst xs =>
    obtain ⟨a, vs, e1, h1, r⟩ := h
    simp only [Val.toD] at e
    split at e
    · rename_i ds e2
      cases e
      rw [e1]
      exact .lst (SqL.of h1) (Reps.dp (Reps.mono le _ _ r) e2)
    · cases e
  | _ => exact Rep.dp (Rep.mono le _ _ h) e
theorem eqV_some {x y : Val} {b : Bool} (h : PV.eqV x y = some b) : ∃ d e, x.toD = some d ∧ y.toD = some e ∧ SeqAt.shaped d = true ∧ SeqAt.shaped e = true ∧ b = PyData.eqv d e := by
  unfold PV.eqV at h
  split at h
  · rename_i d e h1 h2
    split at h
    · rename_i h3
      simp only [Bool.and_eq_true] at h3
      cases h
      exact ⟨d, e, h1, h2, h3.1, h3.2, rfl⟩
    · cases h
  · cases h
end

/-! ### one-place operations -/
section
variable {T : Sta} {F H : Hp} {Q : VK} {x : Val} {v : V} {z : RV}
theorem w1_neg (e : op1 .neg x = some z) (h : RepB T F H x v) (le : Le F H) (w : Wants T F H z Q) : ∃ i, v = .int i ∧ Q (.int (-i)) H := by
  cases x <;> try (cases e)
  rename_i i
  exact ⟨i, h, w.now le rfl⟩
theorem w1_abs (e : op1 .abs x = some z) (h : RepB T F H x v) (le : Le F H) (w : Wants T F H z Q) : ∃ i, [v] = [.int i] ∧ Q (.int (if i < 0 then -i else i)) H := by
  cases x <;> try (cases e)
  rename_i i
  exact ⟨i, by rw [show v = .int i from h], w.now le rfl⟩
def rLen (K : PySem.W.Frag) : List V → Hp → VK → Prop := fun xs H Q => (∃ p ys, xs = [.ref p] ∧ (SqL K H p ys ∨ SqT K H p ys) ∧ Q (.int ys.length) H) ∨ (∃ z, xs = [.str z] ∧ z.length ≤ sizeLine ∧ Q (.int z.length) H)
theorem w1_len (e : op1 .len x = some z) (h : RepB T F H x v) (le : Le F H) (w : Wants T F H z Q) : rLen T.K [v] H Q := by
  simp only [op1] at e
  cases hi : itemsOf x with
  | some xs =>
    rw [hi] at e
    cases e
    obtain ⟨a, vs, e1, h1, r⟩ := RepB.items le h hi
    refine .inl ⟨a, vs, by rw [e1], h1, ?_⟩
    rw [r.len]
    exact w.now le rfl
  | none =>
    rw [hi] at e
    cases x <;> try (cases e)
    rename_i s
    dsimp only at e
    split at e
    · rename_i hs
      cases e
      exact .inr ⟨s, by rw [show v = .str s from h], sz100 hs, w.now le rfl⟩
    · cases e
theorem items_ints (le : Le F H) {xs : List Val} {is : List Int} (h : RepB T F H x v) (hi : itemsOf x = some xs) (e : PV.intsOf xs = some is) :
    ∃ a, v = .ref a ∧ (SqL T.K H a (is.map V.int) ∨ SqT T.K H a (is.map V.int)) := by
  obtain ⟨a, vs, e1, h1, r⟩ := RepB.items le h hi
  rw [ints_of e] at r
  rw [Reps.ints r] at h1
  exact ⟨a, e1, h1⟩
def rSumB (K : PySem.W.Frag) : List V → Hp → VK → Prop := fun vs H Q => ∃ (a : Addr) (ns : List Int), vs = [V.ref a] ∧ (SqL K H a (ns.map V.int) ∨ SqT K H a (ns.map V.int)) ∧ Q (.int ns.sum) H
theorem w1_sum (e : op1 .sum x = some z) (h : RepB T F H x v) (le : Le F H) (w : Wants T F H z Q) : rSumB T.K [v] H Q := by
  have go : ∀ xs, itemsOf x = some xs → (match PV.intsOf xs with | some is => some (RV.val (.int is.sum)) | none => none) = some z → rSumB T.K [v] H Q := fun xs hi e => by
    split at e
    · rename_i is e2
      cases e
      obtain ⟨a, e1, h1⟩ := items_ints le h hi e2
      exact ⟨a, is, by rw [e1], h1, w.now le rfl⟩
    · cases e
  cases x <;> try (cases e)
  · exact go _ rfl e
  · exact go _ rfl e
theorem w1_all (e : op1 .all x = some z) (h : RepB T F H x v) (le : Le F H) (w : Wants T F H z Q) : rAll T.K [v] H Q := by
  cases x <;> try (cases e)
  rename_i xs
  obtain ⟨a, vs, e1, h1, r⟩ := h
  simp only [op1] at e
  split at e
  · rename_i bs e2
    cases e
    rw [bools_of e2] at r
    rw [Reps.bools r] at h1
    exact ⟨a, bs, by rw [e1], SqL.of h1, w.now le rfl⟩
  · cases e
theorem w1_any (e : op1 .any x = some z) (h : RepB T F H x v) (le : Le F H) (w : Wants T F H z Q) : rAny T.K [v] H Q := by
  cases x <;> try (cases e)
  rename_i xs
  obtain ⟨a, vs, e1, h1, r⟩ := h
  simp only [op1] at e
  split at e
  · rename_i bs e2
    cases e
    rw [bools_of e2] at r
    rw [Reps.bools r] at h1
    exact ⟨a, bs, by rw [e1], SqL.of h1, w.now le rfl⟩
  · cases e
def rTupleOf (K : PySem.W.Frag) : List V → Hp → VK → Prop := fun xs H Q => ∃ p ys, xs = [.ref p] ∧ ((SqL K H p ys ∧ ∀ l, H l = none → Q (.ref l) (upd H l (.tup ys))) ∨ (SqT K H p ys ∧ Q (.ref p) H))
theorem w1_tuple (e : op1 .tuple x = some z) (h : RepB T F H x v) (le : Le F H) (w : Wants T F H z Q) : rTupleOf T.K [v] H Q := by
  cases x <;> try (cases e)
  · obtain ⟨a, vs, e1, h1, r⟩ := h
    exact ⟨a, vs, by rw [e1], .inr ⟨le.sqt h1.1, w.now le ⟨a, vs, rfl, h1, r⟩⟩⟩
  · obtain ⟨a, vs, e1, h1, r⟩ := h
    exact ⟨a, vs, by rw [e1], .inl ⟨SqL.of h1, fun l hl => w.tup le r hl⟩⟩
  · obtain ⟨a, vs, e1, h1, r⟩ := h
    exact ⟨a, vs, by rw [e1], .inl ⟨le.sql h1, fun l hl => w.tup le r hl⟩⟩
def rListOf (K : PySem.W.Frag) : List V → Hp → VK → Prop := fun xs H Q => ∃ p ys, xs = [.ref p] ∧ (SqL K H p ys ∨ SqT K H p ys) ∧ ∀ l, H l = none → Q (.ref l) (upd H l (.lst ys))
theorem w1_list (e : op1 .list x = some z) (h : RepB T F H x v) (le : Le F H) (w : Wants T F H z Q) : rListOf T.K [v] H Q := by
  simp only [op1] at e
  split at e
  · rename_i xs hi
    cases e
    obtain ⟨a, vs, e1, h1, r⟩ := RepB.items le h hi
    exact ⟨a, vs, by rw [e1], h1, fun l hl => w.lst le r hl⟩
  · cases e
theorem insI_perm (i : Int) : ∀ l : List Int, (insI i l).Perm (i :: l)
  | [] => List.Perm.refl _
  | j :: r => by
    unfold insI
    split
    · exact List.Perm.refl _
    · exact ((insI_perm i r).cons j).trans (List.Perm.swap i j r)
theorem sortI_perm : ∀ l : List Int, (sortI l).Perm l
  | [] => List.Perm.refl _
  | i :: r => (insI_perm i _).trans ((sortI_perm r).cons i)
theorem insI_sorted (i : Int) : ∀ l : List Int, l.Pairwise (· ≤ ·) → (insI i l).Pairwise (· ≤ ·)
  | [], _ => by unfold insI; exact List.pairwise_singleton _ _
  | j :: r, h => by
    obtain ⟨h1, h2⟩ := List.pairwise_cons.mp h
    unfold insI
    split
    · rename_i hij
      refine List.pairwise_cons.mpr ⟨fun k hk => ?_, h⟩
      rcases List.mem_cons.mp hk with e | hk
      · rw [e]; exact hij
      · exact Int.le_trans hij (h1 k hk)
    · rename_i hij
      refine List.pairwise_cons.mpr ⟨fun k hk => ?_, insI_sorted i r h2⟩
      rcases List.mem_cons.mp ((insI_perm i r).mem_iff.mp hk) with e | hk
      · rw [e]; omega
      · exact h1 k hk
theorem sortI_sorted : ∀ l : List Int, (sortI l).Pairwise (· ≤ ·)
  | [] => List.Pairwise.nil
  | i :: r => insI_sorted i _ (sortI_sorted r)
theorem sorted_uniq : ∀ {l m : List Int}, l.Perm m → l.Pairwise (· ≤ ·) → m.Pairwise (· ≤ ·) → l = m
  | [], m, p, _, _ => (List.Perm.eq_nil p.symm).symm
  | x :: l, [], p, _, _ => absurd p.length_eq (by simp)
  | x :: l, y :: m, p, hl, hm => by
    obtain ⟨l1, l2⟩ := List.pairwise_cons.mp hl
    obtain ⟨m1, m2⟩ := List.pairwise_cons.mp hm
    have e : x = y := by
      have a : x ≤ y := by
        rcases List.mem_cons.mp (p.symm.mem_iff.mp List.mem_cons_self) with e | hy
        · omega
        · exact l1 y hy
      have b : y ≤ x := by
        rcases List.mem_cons.mp (p.mem_iff.mp List.mem_cons_self) with e | hx
        · omega
        · exact m1 x hx
      omega
    subst e
    rw [sorted_uniq (p.cons_inv) l2 m2]
theorem w1_sorted (e : op1 .sorted x = some z) (h : RepB T F H x v) (le : Le F H) (w : Wants T F H z Q) : rSortedI T.K [v] H Q := by
  cases x <;> try (cases e)
  rename_i xs
  obtain ⟨a, vs, e1, h1, r⟩ := h
  simp only [op1] at e
  split at e
  · rename_i is e2
    cases e
    rw [ints_of e2] at r
    rw [Reps.ints r] at h1
    refine ⟨a, is, by rw [e1], SqL.of h1, fun ns' p hp hs hn => ?_⟩
    have q : ns' = sortI is := sorted_uniq (hp.trans (sortI_perm is).symm) hs (sortI_sorted is)
    rw [q]
    exact w.lst le (Reps.ofInts _) hn
  · cases e
theorem w1_int (e : op1 .int x = some z) (h : RepB T F H x v) (le : Le F H) (w : Wants T F H z Q) : (∃ i, [v] = [.int i] ∧ Q (.int i) H) ∨ ∃ k, [v] = [.bl k] ∧ Q (.int (if k then 1 else 0)) H := by
  cases x <;> try (cases e)
  rename_i i
  exact .inl ⟨i, by rw [show v = .int i from h], w.now le rfl⟩
def rStr : List V → Hp → VK → Prop := fun xs H Q => (∃ i, xs = [.int i] ∧ i.natAbs.log2 < 1920 ∧ Q (.str (toString i)) H) ∨ (∃ a, xs = [.str a] ∧ Q (.str a) H)
theorem w1_str (e : op1 .str x = some z) (h : RepB T F H x v) (le : Le F H) (w : Wants T F H z Q) : rStr [v] H Q := by
  cases x <;> try (cases e)
  · rename_i i
    simp only [op1] at e
    split at e
    · rename_i hi
      cases e
      exact .inl ⟨i, by rw [show v = .int i from h], hi, w.now le rfl⟩
    · cases e
  · rename_i s
    exact .inr ⟨s, by rw [show v = .str s from h], w.now le rfl⟩
theorem maxI_spec : ∀ (l : List Int) (m : Int), (maxI m l = m ∨ maxI m l ∈ l) ∧ m ≤ maxI m l ∧ ∀ y ∈ l, y ≤ maxI m l
  | [], m => ⟨.inl rfl, Int.le_refl _, fun y h => absurd h (by simp)⟩
  | i :: r, m => by
    obtain ⟨h1, h2, h3⟩ := maxI_spec r (if i > m then i else m)
    have e : maxI m (i :: r) = maxI (if i > m then i else m) r := rfl
    have b : i ≤ (if i > m then i else m) ∧ m ≤ (if i > m then i else m) := by split <;> omega
    have c : (if i > m then i else m) = m ∨ (if i > m then i else m) = i := by
      split
      · exact .inr rfl
      · exact .inl rfl
    rw [e]
    generalize (if i > m then i else m) = J at h1 h2 h3 b c
    refine ⟨?_, by omega, fun y hy => ?_⟩
    · rcases h1 with h1 | h1
      · rw [h1]
        rcases c with c | c
        · exact .inl c
        · exact .inr (by rw [c]; exact List.mem_cons_self)
      · exact .inr (List.mem_cons_of_mem _ h1)
    · rcases List.mem_cons.mp hy with q | hy
      · subst q; omega
      · exact h3 y hy
theorem minI_spec : ∀ (l : List Int) (m : Int), (minI m l = m ∨ minI m l ∈ l) ∧ minI m l ≤ m ∧ ∀ y ∈ l, minI m l ≤ y
  | [], m => ⟨.inl rfl, Int.le_refl _, fun y h => absurd h (by simp)⟩
  | i :: r, m => by
    obtain ⟨h1, h2, h3⟩ := minI_spec r (if i < m then i else m)
    have e : minI m (i :: r) = minI (if i < m then i else m) r := rfl
    have b : i ≥ (if i < m then i else m) ∧ m ≥ (if i < m then i else m) := by split <;> omega
    have c : (if i < m then i else m) = m ∨ (if i < m then i else m) = i := by
      split
      · exact .inr rfl
      · exact .inl rfl
    rw [e]
    generalize (if i < m then i else m) = J at h1 h2 h3 b c
    refine ⟨?_, by omega, fun y hy => ?_⟩
    · rcases h1 with h1 | h1
      · rw [h1]
        rcases c with c | c
        · exact .inl c
        · exact .inr (by rw [c]; exact List.mem_cons_self)
      · exact .inr (List.mem_cons_of_mem _ h1)
    · rcases List.mem_cons.mp hy with q | hy
      · subst q; omega
      · exact h3 y hy
theorem w1_maxL (e : op1 .maxL x = some z) (h : RepB T F H x v) (le : Le F H) (w : Wants T F H z Q) : rMax T.K [v] H Q := by
  cases x <;> try (cases e)
  rename_i xs
  obtain ⟨a, vs, e1, h1, r⟩ := h
  simp only [op1] at e
  split at e
  · rename_i i is e2
    cases e
    rw [ints_of e2] at r
    rw [Reps.ints r] at h1
    refine ⟨a, i :: is, by rw [e1], SqL.of h1, by simp, fun m hm hy => ?_⟩
    obtain ⟨k1, k2, k3⟩ := maxI_spec is i
    have q : m = maxI i is := by
      have q1 : m ≤ maxI i is := by
        rcases List.mem_cons.mp hm with e | hm
        · rw [e]; exact k2
        · exact k3 m hm
      have q2 : maxI i is ≤ m := by
        rcases k1 with k1 | k1
        · rw [k1]; exact hy i List.mem_cons_self
        · exact hy _ (List.mem_cons_of_mem _ k1)
      omega
    rw [q]
    exact w.now le rfl
  · cases e
theorem w1_minL (e : op1 .minL x = some z) (h : RepB T F H x v) (le : Le F H) (w : Wants T F H z Q) : rMin T.K [v] H Q := by
  cases x <;> try (cases e)
  rename_i xs
  obtain ⟨a, vs, e1, h1, r⟩ := h
  simp only [op1] at e
  split at e
  · rename_i i is e2
    cases e
    rw [ints_of e2] at r
    rw [Reps.ints r] at h1
    refine ⟨a, i :: is, by rw [e1], SqL.of h1, by simp, fun m hm hy => ?_⟩
    obtain ⟨k1, k2, k3⟩ := minI_spec is i
    have q : m = minI i is := by
      have q1 : minI i is ≤ m := by
        rcases List.mem_cons.mp hm with e | hm
        · rw [e]; exact k2
        · exact k3 m hm
      have q2 : m ≤ minI i is := by
        rcases k1 with k1 | k1
        · rw [k1]; exact hy i List.mem_cons_self
        · exact hy _ (List.mem_cons_of_mem _ k1)
      omega
    rw [q]
    exact w.now le rfl
  · cases e
end

/-! ### two-place operations -/
section
variable {T : Sta} {F H : Hp} {Q : VK} {x y : Val} {v u : V} {z : RV}
theorem w2_I (g : Int → Int → Int) {o : Op2} (ho : ∀ i j, op2 o (.int i) (.int j) = some (.val (.int (g i j)))) {i j : Int} (e : op2 o (.int i) (.int j) = some z) (h : RepB T F H (.int i) v) (k : RepB T F H (.int j) u) (le : Le F H) (w : Wants T F H z Q) :
    rI0 (fun i j => .int (g i j)) v u H Q := by
  rw [ho] at e
  cases e
  exact ⟨i, j, h, k, w.now le rfl⟩
theorem w2_B (g : Int → Int → Bool) {o : Op2} (ho : ∀ i j, op2 o (.int i) (.int j) = some (.val (.bl (g i j)))) {i j : Int} (e : op2 o (.int i) (.int j) = some z) (h : RepB T F H (.int i) v) (k : RepB T F H (.int j) u) (le : Le F H) (w : Wants T F H z Q) :
    rI0 (fun i j => .bl (g i j)) v u H Q := by
  rw [ho] at e
  cases e
  exact ⟨i, j, h, k, w.now le rfl⟩
/-- a + b: ints, texts, tuples, lists -/
def rAddB (K : PySem.W.Frag) : R2 := fun x y H Q => rI0 (fun i j => .int (i + j)) x y H Q ∨ (∃ i j, x = .str i ∧ y = .str j ∧ i.length + j.length ≤ sizeLine ∧ Q (.str (i ++ j)) H) ∨ rCatB K x y H Q ∨ rCat x y H Q
where rCatB (K : PySem.W.Frag) : R2 := fun x y H Q => ∃ a b xs ys, x = .ref a ∧ y = .ref b ∧ SqT K H a xs ∧ SqT K H b ys ∧ xs.length + ys.length ≤ sizeLine ∧
  (xs = [] → Q (.ref b) H) ∧ (xs ≠ [] → ys = [] → Q (.ref a) H) ∧ (xs ≠ [] → ys ≠ [] → ∀ p, H p = none → Q (.ref p) (upd H p (.tup (xs ++ ys))))
theorem w2_add (e : op2 .add x y = some z) (h : RepB T F H x v) (k : RepB T F H y u) (le : Le F H) (w : Wants T F H z Q) : rAddB T.K v u H Q := by
  cases x <;> cases y <;> try (cases e)
  · exact .inl ⟨_, _, h, k, w.now le rfl⟩
  · simp only [op2] at e
    split at e
    · rename_i hz
      cases e
      exact .inr (.inl ⟨_, _, h, k, sz100 hz, w.now le rfl⟩)
    · cases e
  · simp only [op2] at e
    split at e
    · rename_i d1 xs d2 ys hz
      cases e
      obtain ⟨a, vs, e1, ⟨h1, _⟩, r⟩ := h
      obtain ⟨b, us, e2, ⟨h2, _⟩, r2⟩ := k
      refine .inr (.inr (.inl ⟨a, b, vs, us, e1, e2, le.sqt h1, le.sqt h2, ?_, fun z => ?_, fun _ z => ?_, fun _ _ p hp => ?_⟩))
      · rw [r.len, r2.len]; exact sz100 hz
      · subst z
        have : xs = [] := List.length_eq_zero_iff.mp (by have := r.len; simpa using this.symm)
        subst this
        exact w.now le ⟨b, us, rfl, ⟨h2, fun z => nomatch z⟩, r2⟩
      · subst z
        have : ys = [] := List.length_eq_zero_iff.mp (by have := r2.len; simpa using this.symm)
        subst this
        exact w.now le ⟨a, vs, rfl, ⟨h1, fun z => nomatch z⟩, by simpa using r⟩
      · exact w.tup le (r.append r2) hp
    · cases e
  · simp only [op2] at e
    split at e
    · rename_i xs ys hz
      cases e
      obtain ⟨a, vs, e1, h1, r⟩ := h
      obtain ⟨b, us, e2, h2, r2⟩ := k
      refine .inr (.inr (.inr ⟨a, b, vs, us, e1, e2, h1, h2, ?_, fun p hp => ?_⟩))
      · rw [r.len, r2.len]; exact sz100 hz
      · exact w.lst le (r.append r2) hp
    · cases e
theorem w2_sub (e : op2 .sub x y = some z) (h : RepB T F H x v) (k : RepB T F H y u) (le : Le F H) (w : Wants T F H z Q) : rI0 (fun i j => .int (i - j)) v u H Q := by
  cases x <;> cases y <;> try (cases e)
  exact ⟨_, _, h, k, w.now le rfl⟩
theorem Reps.flat {xs : List Val} {vs : List V} (r : Reps T F xs vs) : ∀ n : Nat, Reps T F (List.replicate n xs).flatten (List.replicate n vs).flatten
  | 0 => rfl
  | n + 1 => by
    rw [List.replicate_succ, List.flatten_cons, List.replicate_succ, List.flatten_cons]
    exact r.append (Reps.flat r n)
/-- a * b: ints, tuples, lists -/
def rMulB (K : PySem.W.Frag) : R2 := fun x y H Q => rI CMul (fun i j => .int (i * j)) x y H Q ∨ rTupMul K x y H Q ∨ rRep x y H Q
where rTupMul (K : PySem.W.Frag) : R2 := fun x y H Q => ∃ a xs k, x = .ref a ∧ y = .int k ∧ SqT K H a xs ∧ 1 ≤ k ∧ k ≤ 1000 ∧ xs.length ≤ 1000 ∧
  ((k = 1 ∨ xs = []) → Q (.ref a) H) ∧ (∀ p, H p = none → Q (.ref p) (upd H p (.tup (List.replicate k.toNat xs).flatten)))
theorem w2_mul (e : op2 .mul x y = some z) (h : RepB T F H x v) (k : RepB T F H y u) (le : Le F H) (w : Wants T F H z Q) : rMulB T.K v u H Q := by
  cases x <;> cases y <;> try (cases e)
  · simp only [op2] at e
    split at e
    · rename_i hz
      cases e
      exact .inl ⟨_, _, h, k, hz, w.now le rfl⟩
    · cases e
  · simp only [op2] at e
    split at e
    · rename_i d xs j hz
      cases e
      obtain ⟨a, vs, e1, ⟨h1, _⟩, r⟩ := h
      refine .inr (.inl ⟨a, vs, j, e1, k, le.sqt h1, hz.2.2.2, hz.2.2.1, by rw [r.len]; exact hz.2.1, fun q => ?_, fun p hp => w.tup le (r.flat _) hp⟩)
      rcases q with q | q
      · subst q
        have ee : (List.replicate (1 : Int).toNat xs).flatten = xs := by simp
        rw [ee] at w
        exact w.now le ⟨a, vs, rfl, ⟨h1, fun z => nomatch z⟩, r⟩
      · subst q
        have : xs = [] := List.length_eq_zero_iff.mp (by have := r.len; simpa using this.symm)
        subst this
        have ee : (List.replicate j.toNat ([] : List Val)).flatten = [] := by simp
        rw [ee] at w
        exact w.now le ⟨a, [], rfl, ⟨h1, fun z => nomatch z⟩, r⟩
    · cases e
  · simp only [op2] at e
    split at e
    · rename_i xs j hz
      cases e
      obtain ⟨a, vs, e1, h1, r⟩ := h
      refine .inr (.inr ⟨a, j, vs, e1, k, h1, by omega, by omega, by rw [r.len]; exact sz100 hz.1, fun p hp => w.lst le (r.flat _) hp⟩)
    · cases e
theorem w2_fdiv (e : op2 .fdiv x y = some z) (h : RepB T F H x v) (k : RepB T F H y u) (le : Le F H) (w : Wants T F H z Q) : rI CDivN (fun i j => .int (i.fdiv j)) v u H Q := by
  cases x <;> cases y <;> try (cases e)
  simp only [op2] at e
  split at e
  · rename_i hz
    cases e
    exact ⟨_, _, h, k, hz, w.now le rfl⟩
  · cases e
theorem w2_mod (e : op2 .mod x y = some z) (h : RepB T F H x v) (k : RepB T F H y u) (le : Le F H) (w : Wants T F H z Q) : rI (fun _ j => 0 < j) (fun i j => .int (i % j)) v u H Q := by
  cases x <;> cases y <;> try (cases e)
  simp only [op2] at e
  split at e
  · rename_i hz
    cases e
    exact ⟨_, _, h, k, hz, w.now le rfl⟩
  · cases e
theorem w2_pow (e : op2 .pow x y = some z) (h : RepB T F H x v) (k : RepB T F H y u) (le : Le F H) (w : Wants T F H z Q) : rI CPow (fun i j => .int (i ^ j.toNat)) v u H Q := by
  cases x <;> cases y <;> try (cases e)
  simp only [op2] at e
  split at e
  · rename_i hz
    cases e
    exact ⟨_, _, h, k, hz, w.now le rfl⟩
  · cases e
theorem w2_eq (e : op2 .eq x y = some z) (h : RepB T F H x v) (k : RepB T F H y u) (le : Le F H) (w : Wants T F H z Q) : rEqD T.K v u H Q := by
  simp only [op2, b2V] at e
  split at e
  · rename_i b e1
    cases e
    obtain ⟨d, e, h1, h2, h3, h4, rfl⟩ := eqV_some e1
    exact ⟨d, e, h.dp le h1, k.dp le h2, h3, h4, w.now le rfl⟩
  · cases e
theorem w2_ne (e : op2 .ne x y = some z) (h : RepB T F H x v) (k : RepB T F H y u) (le : Le F H) (w : Wants T F H z Q) : rNeD T.K v u H Q := by
  simp only [op2, b2V] at e
  split at e
  · rename_i b e1
    cases e
    obtain ⟨d, e, h1, h2, h3, h4, rfl⟩ := eqV_some e1
    exact ⟨d, e, h.dp le h1, k.dp le h2, h3, h4, w.now le rfl⟩
  · cases e
theorem w2_lt (e : op2 .lt x y = some z) (h : RepB T F H x v) (k : RepB T F H y u) (le : Le F H) (w : Wants T F H z Q) : rI0 (fun i j => .bl (decide (i < j))) v u H Q := by
  cases x <;> cases y <;> try (cases e)
  exact ⟨_, _, h, k, w.now le rfl⟩
theorem w2_le (e : op2 .le x y = some z) (h : RepB T F H x v) (k : RepB T F H y u) (le : Le F H) (w : Wants T F H z Q) : rI0 (fun i j => .bl (decide (i ≤ j))) v u H Q := by
  cases x <;> cases y <;> try (cases e)
  exact ⟨_, _, h, k, w.now le rfl⟩
theorem w2_gt (e : op2 .gt x y = some z) (h : RepB T F H x v) (k : RepB T F H y u) (le : Le F H) (w : Wants T F H z Q) : rI0 (fun i j => .bl (decide (j < i))) v u H Q := by
  cases x <;> cases y <;> try (cases e)
  exact ⟨_, _, h, k, w.now le rfl⟩
theorem w2_ge (e : op2 .ge x y = some z) (h : RepB T F H x v) (k : RepB T F H y u) (le : Le F H) (w : Wants T F H z Q) : rI0 (fun i j => .bl (decide (j ≤ i))) v u H Q := by
  cases x <;> cases y <;> try (cases e)
  exact ⟨_, _, h, k, w.now le rfl⟩
theorem atV_eq {xs : List Val} {vs : List V} (r : Reps T F xs vs) {i : Int} {x : Val} (e : atV xs i = some x) : ∃ v, atI vs i = some v ∧ Rep T F x v := by
  unfold atV at e
  unfold atI ixN
  rw [r.len]
  by_cases h0 : 0 ≤ i
  · rw [if_pos h0] at e ⊢
    obtain ⟨v, h1, h2⟩ := r.get e
    have hlt : i.toNat < xs.length := (List.getElem?_eq_some_iff.mp e).1
    rw [if_pos (by omega)]
    exact ⟨v, h1, h2⟩
  · rw [if_neg h0] at e ⊢
    split at e
    · rename_i h1
      obtain ⟨v, h2, h3⟩ := r.get e
      rw [if_pos (by omega)]
      refine ⟨v, ?_, h3⟩
      have : (i + (xs.length : Int)).toNat = ((xs.length : Int) + i).toNat := by congr 1; omega
      simp only [Option.bind_some]
      first
        | exact h2
        | (rw [this]; exact h2)
    · cases e
theorem w2_ix (e : op2 .ix x y = some z) (h : RepB T F H x v) (k : RepB T F H y u) (le : Le F H) (w : Wants T F H z Q) : rIx T.K v u H Q := by
  cases y <;> try (cases e; done)
  all_goals try (cases x <;> cases e; done)
  rename_i i
  simp only [op2] at e
  split at e
  · rename_i xs hi
    split at e
    · rename_i w' hw
      cases e
      obtain ⟨a, vs, e1, h1, r⟩ := RepB.items le h hi
      obtain ⟨v', h2, h3⟩ := atV_eq r hw
      rcases h1 with h1 | h1
      · exact .inl ⟨a, vs, i, v', e1, k, h1, h2, w.now le h3⟩
      · exact .inr (.inl ⟨a, vs, i, v', e1, k, h1, h2, w.now le h3⟩)
    · cases e
  · cases e
theorem w2_max (e : op2 .max x y = some z) (h : RepB T F H x v) (k : RepB T F H y u) (le : Le F H) (w : Wants T F H z Q) : ∃ i j, [v, u] = [.int i, .int j] ∧ Q (.int (if j > i then j else i)) H := by
  cases x <;> cases y <;> try (cases e)
  exact ⟨_, _, by rw [show v = _ from h, show u = _ from k], w.now le rfl⟩
theorem w2_min (e : op2 .min x y = some z) (h : RepB T F H x v) (k : RepB T F H y u) (le : Le F H) (w : Wants T F H z Q) : ∃ i j, [v, u] = [.int i, .int j] ∧ Q (.int (if j < i then j else i)) H := by
  cases x <;> cases y <;> try (cases e)
  exact ⟨_, _, by rw [show v = _ from h, show u = _ from k], w.now le rfl⟩
theorem w2_divmod (e : op2 .divmod x y = some z) (h : RepB T F H x v) (k : RepB T F H y u) (le : Le F H) (w : Wants T F H z Q) : ∃ i j, [v, u] = [.int i, .int j] ∧ CDiv i j ∧ ∀ p, H p = none → Q (.ref p) (upd H p (.tup [.int (i / j), .int (i % j)])) := by
  cases x <;> cases y <;> try (cases e)
  simp only [op2] at e
  split at e
  · rename_i i j hz
    cases e
    exact ⟨i, j, by rw [show v = _ from h, show u = _ from k], hz, fun p hp => w.tup le ⟨_, _, rfl, rfl, _, _, rfl, rfl, rfl⟩ hp⟩
  · cases e
end
end PV
end

section
set_option Elab.async false
set_option linter.all false
set_option autoImplicit false
set_option maxRecDepth 100000
set_option maxHeartbeats 4000000
/-! PV4: expressions. -/
namespace PV
open PySem PySem.Spec L2

structure Lw where
  T : Sta
  Φ : Fns
  G : Nat → Option Val
abbrev Lw.e (L : Lw) (e : E) : Env → Res RV := PV.ev L.Φ L.G L.T.fields e

/-! ### readings -/
def tE (T : Sta) (W : WX) (m : Env → Res RV) : TE := fun σ H Q => ∃ F ρ, REnv T F H σ ρ ∧ Post T W F H σ ρ (m ρ) fun r _ F' H' => ∀ v, RepR T H F' H' r v → Q v H'
def tO (T : Sta) (W : WX) (m : Env → Res Opd) : TE := fun σ H Q => ∃ F ρ, REnv T F H σ ρ ∧ Post T W F H σ ρ (m ρ) fun o _ F' H' => ∀ v, RepO T F' σ o v → Q v H'
def tT (T : Sta) (W : WX) (m : Env → Res RV) : TT := fun σ H Q => ∃ F ρ, REnv T F H σ ρ ∧ Post T W F H σ ρ (m ρ) fun r _ F' H' => ∃ b, r = .val (.bl b) ∧ Q b H'
def tA (T : Sta) (W : WX) (m : Env → Res RV) : TA := fun σ H Q => ∃ F ρ, REnv T F H σ ρ ∧ Post T W F H σ ρ (m ρ) fun r _ F' H' => ∃ xs, r = .fresh xs ∧ ∀ vs, Reps T F' xs vs → Q vs H'

theorem _root_.L2.PE.imp {X : Cx} {e : Expr} {t t' : TE} (h : PE X e t) (k : ∀ σ H Q, t' σ H Q → t σ H Q) : PE X e t' := ⟨fun pins s σ H Q I q => h.run pins s σ H Q I (k σ H Q q)⟩
theorem _root_.L2.PT.imp {X : Cx} {e : Expr} {t t' : TT} (h : PT X e t) (k : ∀ σ H Q, t' σ H Q → t σ H Q) : PT X e t' := ⟨fun pins s σ H Q I q => h.run pins s σ H Q I (k σ H Q q)⟩
theorem _root_.L2.PW.imp {X : Cx} {e : Expr} {t t' : TT} (h : PW X e t) (k : ∀ σ H Q, t' σ H Q → t σ H Q) : PW X e t' := ⟨fun wh pins s σ H Q I q => h.run wh pins s σ H Q I (k σ H Q q)⟩
theorem _root_.L2.PA.imp {X : Cx} {e : List Expr} {t t' : TA} (h : PA X e t) (k : ∀ σ H Q, t' σ H Q → t σ H Q) : PA X e t' := ⟨fun pos pins s σ H Q I q => h.run pos pins s σ H Q I (k σ H Q q)⟩

section
variable {T : Sta} {W : WX} {F H F1 H1 : Hp} {σ : L2.St} {ρ ρ1 : Env}
theorem RepR.back (s : Ste T F H σ ρ F1 H1 ρ1) {F2 H2 : Hp} {r : RV} {v : V} (h : RepR T H1 F2 H2 r v) : RepR T H F2 H2 r v := by
  cases r with
  | val x => exact h
  | fresh xs =>
    obtain ⟨p, vs, e, h0, h2, h1, k⟩ := h
    exact ⟨p, vs, e, s.nonOf h0, h2, h1, k⟩
theorem RepR.ofRep {F2 H2 : Hp} {x : Val} {v : V} (h : RepR T H F2 H2 (.val x) v) : Rep T F2 x v := h
/-- the second part from where the first ends -/
theorem Post.backR {m : Res RV} {Q : VK} (s : Ste T F H σ ρ F1 H1 ρ1) (h : Post T W F1 H1 σ ρ1 m fun r _ F' H' => ∀ v, RepR T H F' H' r v → Q v H') :
    Post T W F1 H1 σ ρ1 m fun r _ F' H' => ∀ v, RepR T H1 F' H' r v → Q v H' := h.mono fun _ _ _ _ _ k v r => k v (r.back s)
theorem post_ok {α : Type} {a : α} {P : α → Env → Hp → Hp → Prop} (s : Ste T F H σ ρ F1 H1 ρ1) (h : Post T W F H σ ρ (.ok a ρ1) P) : P a ρ1 F1 H1 := h F1 H1 s
/-- an operation's wish from a sequence's end -/
theorem post_lift {o : Option RV} {Q : VK} (s : Ste T F H σ ρ F1 H1 ρ1) (h : Post T W F1 H1 σ ρ1 (lift1 o ρ1) fun r _ F' H' => ∀ v, RepR T H F' H' r v → Q v H') : ∃ z, o = some z ∧ Wants T F1 H1 z Q := by
  cases o with
  | none => exact h.elim
  | some z => exact ⟨z, rfl, fun F' H' v t r => h F' H' ((Ste.refl s.en).more t) v (r.back s)⟩
end

/-- the first half of a sequence, the second from any state with the same slots -/
theorem Post.seq {α β : Type} {T : Sta} {W : WX} {F H : Hp} {σ : L2.St} {ρ : Env} {m : Res α} {f : α → Env → Res β} {P : β → Env → Hp → Hp → Prop} (h : Post T W F H σ ρ (m.bnd f) P) :
    Post T W F H σ ρ m fun a ρ1 F1 H1 => ∀ F2 H2, Ste T F H σ ρ F2 H2 ρ1 → Post T W F2 H2 σ ρ1 (f a ρ1) P := by
  cases m with
  | ok a ρ' => exact fun _ _ _ F2 H2 s => Post.shift s h
  | exc e ρ' => exact h
  | stuck => exact h
theorem Post.eqn {α : Type} {T : Sta} {W : WX} {F H : Hp} {σ : L2.St} {ρ : Env} {m : Res α} {P : α → Env → Hp → Hp → Prop} (h : Post T W F H σ ρ m P) : Post T W F H σ ρ m fun a ρ' F' H' => m = .ok a ρ' ∧ P a ρ' F' H' := by
  cases m with
  | ok a ρ' => exact fun F' H' s => ⟨rfl, h F' H' s⟩
  | exc e ρ' => exact h
  | stuck => exact h
/-! ### the small ones -/
section
variable {T : Sta} {W : WX} {σ : L2.St} {H : Hp} {Q : VK} {m : Env → Res RV} {Φ : Fns} {G : Nat → Option Val} {fl : Nat → List Str}
theorem tE_C {x : Val} {v : V} (hx : ∀ F, Rep T F x v) (h : tE T W (fun ρ => .ok (.val x) ρ) σ H Q) : tC v σ H Q := by
  obtain ⟨F, ρ, R, P⟩ := h
  exact P F H (Ste.refl R) v (hx F)
theorem tE_var {i : Nat} (h : tE T W (PV.ev Φ G fl (.var i)) σ H Q) : tVar i σ H Q := by
  obtain ⟨F, ρ, R, P⟩ := h
  simp only [PV.ev] at P
  cases e : ρ[i]? with
  | none => rw [e] at P; exact P.elim
  | some s =>
    rw [e] at P
    cases s with
    | v x =>
      obtain ⟨v, e1, r⟩ := R.sl i _ e
      refine ⟨v, ?_, P F H (Ste.refl R) v r⟩
      cases z : σ[i]? with
      | none => rw [z] at e1; cases e1
      | some w => rw [z] at e1; exact congrArg some e1
    | un => exact P.elim
    | ol _ => exact P.elim
    | oo _ _ _ => exact P.elim
theorem tO_var {i : Nat} {m : Env → Res RV} (h : tO T W (opd (.var i) m) σ H Q) : tVar i σ H Q := by
  obtain ⟨F, ρ, R, P⟩ := h
  simp only [opd] at P
  cases e : ρ[i]? with
  | none => rw [e] at P; exact P.elim
  | some s =>
    rw [e] at P
    have at_ : ∀ {v : V}, σ[i]?.join = some v → σ[i]? = some (some v) := fun {v} e1 => by
      cases z : σ[i]? with
      | none => rw [z] at e1; cases e1
      | some w => rw [z] at e1; exact congrArg some e1
    cases s with
    | v x =>
      obtain ⟨v, e1, r⟩ := R.sl i _ e
      exact ⟨v, at_ e1, P F H (Ste.refl R) v r⟩
    | ol xs =>
      obtain ⟨a, vs, e1, _⟩ := R.sl i _ e
      exact ⟨.ref a, at_ e1, P F H (Ste.refl R) (.ref a) (at_ e1)⟩
    | un => exact P.elim
    | oo _ _ _ => exact P.elim
/-- a slot's own list fixed -/
theorem REnv.freeze {T : Sta} {F H : Hp} {σ : L2.St} {ρ : Env} {i : Nat} {xs : List Val} (R : REnv T F H σ ρ) (e : ρ[i]? = some (.ol xs)) :
    ∃ a F', σ[i]? = some (some (.ref a)) ∧ Ste T F H σ ρ F' H (ρ.set i (.v (.lst xs))) ∧ Rep T F' (.lst xs) (.ref a) := by
  obtain ⟨a, vs, e1, h1, h2, r⟩ := R.sl i _ e
  have ei : σ[i]? = some (some (.ref a)) := by
    cases z : σ[i]? with
    | none => rw [z] at e1; cases e1
    | some w => rw [z] at e1; exact congrArg some e1
  have le : Le F (upd F a (.lst vs)) := Le.new h2
  have le2 : Le (upd F a (.lst vs)) H := fun b u q => by
    unfold upd at q
    by_cases hb : b = a
    · rw [if_pos hb] at q; cases q; rw [hb]; exact h1
    · rw [if_neg hb] at q; exact R.le b u q
  have own : OwnAt σ ρ i a := ⟨_, e, rfl, ei⟩
  have il : i < ρ.length := (List.getElem?_eq_some_iff.mp e).1
  have rp : Rep T (upd F a (.lst vs)) (.lst xs) (.ref a) := ⟨a, vs, rfl, upd_same, Reps.mono le _ _ r⟩
  have sub : ∀ j b, OwnAt σ (ρ.set i (.v (.lst xs))) j b → OwnAt σ ρ j b ∧ j ≠ i := fun j b ⟨s, es, eo, ez⟩ => by
    by_cases hj : i = j
    · subst hj
      rw [List.getElem?_set_self il] at es
      cases es
      cases eo
    · rw [List.getElem?_set_ne hj] at es
      exact ⟨⟨s, es, eo, ez⟩, fun z => hj z.symm⟩
  refine ⟨a, upd F a (.lst vs), ei, ⟨⟨le, le2, fun b o q _ => q, fun b q n f => ?_, fun b q => q⟩, ⟨le2, by rw [List.length_set]; exact R.len, fun j s es => ?_, fun j k b hj hk => R.dj j k b (sub j b hj).1 (sub k b hk).1⟩, fun j b hj => (sub j b hj).1⟩, rp⟩
  · have : b ≠ a := fun z => n ⟨i, by rw [z]; exact own⟩
    rw [upd_ne this]; exact f
  · by_cases hj : i = j
    · subst hj
      rw [List.getElem?_set_self il] at es
      cases es
      exact ⟨.ref a, e1, rp⟩
    · rw [List.getElem?_set_ne hj] at es
      have k := R.sl j s es
      cases s with
      | un => trivial
      | v x => obtain ⟨v, q, r⟩ := k; exact ⟨v, q, r.mono le⟩
      | ol ys =>
        obtain ⟨b, us, q, g1, g2, r'⟩ := k
        have hb : b ≠ a := fun z => by
          subst z
          refine hj (R.dj i j b own ⟨_, es, rfl, ?_⟩)
          cases z : σ[j]? with
          | none => rw [z] at q; cases q
          | some w => rw [z] at q; exact congrArg some q
        exact ⟨b, us, q, g1, by rw [upd_ne hb]; exact g2, Reps.mono le _ _ r'⟩
      | oo c ks ys =>
        obtain ⟨b, dx, us, q, g1, g2, g3, r'⟩ := k
        have hb : b ≠ a := fun z => by
          subst z
          refine hj (R.dj i j b own ⟨_, es, rfl, ?_⟩)
          cases z : σ[j]? with
          | none => rw [z] at q; cases q
          | some w => rw [z] at q; exact congrArg some q
        exact ⟨b, dx, us, q, g1, by rw [upd_ne hb]; exact g2, g3, Reps.mono le _ _ r'⟩
theorem tE_mv {i : Nat} (h : tE T W (PV.ev Φ G fl (.mv i)) σ H Q) : tVar i σ H Q := by
  obtain ⟨F, ρ, R, P⟩ := h
  simp only [PV.ev] at P
  cases e : ρ[i]? with
  | none => rw [e] at P; exact P.elim
  | some s =>
    rw [e] at P
    cases s with
    | ol xs =>
      obtain ⟨a, F', ei, st, rp⟩ := R.freeze e
      exact ⟨.ref a, ei, P F' H st _ rp⟩
    | un => exact P.elim
    | v _ => exact P.elim
    | oo _ _ _ => exact P.elim
/-- an operand that is no name -/
theorem tO_of {e : E} {m : Env → Res RV} (hm : ∀ ρ, opd e m ρ = (m ρ).bnd fun r ρ1 => .ok (.vl r.frz) ρ1) (h : tO T W (opd e m) σ H Q) : tE T W m σ H Q := by
  obtain ⟨F, ρ, R, P⟩ := h
  rw [hm ρ] at P
  refine ⟨F, ρ, R, P.seq.mono fun r ρ1 F1 H1 s k v hv => ?_⟩
  obtain ⟨F2, s2, le, rp⟩ := RepR.frz R s hv
  exact k F2 H1 s2 F2 H1 (Ste.refl s2.en) v rp
end

/-! ### operations -/
section
variable {T : Sta} {W : WX} {σ : L2.St} {H : Hp} {Q : VK} {Φ : Fns} {G : Nat → Option Val} {fl : Nat → List Str}
theorem tE_o1 {o : Op1} {a : E} (h : tE T W (PV.ev Φ G fl (.o1 o a)) σ H Q) {r : V → Hp → VK → Prop}
    (w : ∀ {F H : Hp} {x : Val} {v : V} {z : RV} {Q : VK}, op1 o x = some z → RepB T F H x v → Le F H → Wants T F H z Q → r v H Q) : tO T W (opd a (PV.ev Φ G fl a)) σ H fun v H1 => r v H1 Q := by
  obtain ⟨F, ρ, R, P⟩ := h
  refine ⟨F, ρ, R, (Post.bnd (m := opd a (PV.ev Φ G fl a) ρ) P).mono fun x ρ1 F1 H1 s ⟨_, k⟩ v hv => ?_⟩
  cases e : x.get ρ1 with
  | none => rw [e] at k; exact k.elim
  | some y =>
    rw [e] at k
    obtain ⟨z, ez, wz⟩ := post_lift s k
    exact w ez (hv.get s.en e) s.en.le wz
theorem tE_o2 {o : Op2} {a b : E} (h : tE T W (PV.ev Φ G fl (.o2 o a b)) σ H Q) {r : V → V → Hp → VK → Prop}
    (w : ∀ {F H : Hp} {x y : Val} {v u : V} {z : RV} {Q : VK}, op2 o x y = some z → RepB T F H x v → RepB T F H y u → Le F H → Wants T F H z Q → r v u H Q) :
    tO T W (opd a (PV.ev Φ G fl a)) σ H fun v H1 => tO T W (opd b (PV.ev Φ G fl b)) σ H1 fun u H2 => r v u H2 Q := by
  obtain ⟨F, ρ, R, P⟩ := h
  refine ⟨F, ρ, R, (Post.bnd (m := opd a (PV.ev Φ G fl a) ρ) P).mono fun x ρ1 F1 H1 s ⟨_, k⟩ v hv => ?_⟩
  refine ⟨F1, ρ1, s.en, (Post.bnd (m := opd b (PV.ev Φ G fl b) ρ1) k).mono fun y ρ2 F2 H2 s2 ⟨_, k2⟩ u hu => ?_⟩
  cases e : x.get ρ2 with
  | none => rw [e] at k2; exact k2.elim
  | some x' =>
    cases e2 : y.get ρ2 with
    | none => rw [e, e2] at k2; exact k2.elim
    | some y' =>
      rw [e, e2] at k2
      obtain ⟨z, ez, wz⟩ := post_lift (s.trans s2) k2
      exact w ez (RepO.get s2.en (hv.mono s2.tr.ff) e) (hu.get s2.en e2) s2.en.le wz
/-- a test as a value -/
theorem tT_tE {m : Env → Res RV} {R : Bool → Hp → Prop} (h : tT T W m σ H R) : tE T W m σ H fun x H' => ∃ k, x = .bl k ∧ R k H' := by
  obtain ⟨F, ρ, Rn, P⟩ := h
  refine ⟨F, ρ, Rn, P.mono fun r ρ1 F1 H1 s ⟨b, e, k⟩ v hv => ?_⟩
  subst e
  exact ⟨b, hv, k⟩
theorem tE_isN {ng : Bool} {a : E} (h : tE T W (PV.ev Φ G fl (.isN ng a)) σ H Q) : tE T W (PV.ev Φ G fl a) σ H fun x H1 => Q (.bl (ng != decide (x = .non))) H1 := by
  obtain ⟨F, ρ, R, P⟩ := h
  refine ⟨F, ρ, R, (Post.seq (m := PV.ev Φ G fl a ρ) P).mono fun r ρ1 F1 H1 s k v hv => ?_⟩
  have q := k F1 H1 s
  have e : isNon r = decide (v = .non) := by
    cases r with
    | fresh xs => obtain ⟨p, vs, e, _⟩ := hv; subst e; rfl
    | val x =>
      cases x with
      | non => rw [show v = .non from hv]; rfl
      | bl b => rw [show v = .bl b from hv]; rfl
      | int b => rw [show v = .int b from hv]; rfl
      | str b => rw [show v = .str b from hv]; rfl
      | tup d xs => obtain ⟨p, vs, e, _⟩ := hv; subst e; rfl
      | lst xs => obtain ⟨p, vs, e, _⟩ := hv; subst e; rfl
      | scr xs => obtain ⟨p, vs, e, _⟩ := hv; subst e; rfl
      | st is => obtain ⟨p, S, n, e, _⟩ := hv; subst e; rfl
      | ins c xs => obtain ⟨p, dx, vs, e, _⟩ := hv; subst e; rfl
  rw [e] at q
  exact q F1 H1 (Ste.refl s.en) _ rfl
/-- what follows a truth -/
theorem post_bool {α : Type} {T : Sta} {W : WX} {F H F1 H1 : Hp} {σ : L2.St} {ρ : Env} {r : RV} {v : V} {t e : Res α} {P : α → Env → Hp → Hp → Prop}
    (h : Post T W F H σ ρ (match r with | .val (.bl true) => t | .val (.bl false) => e | _ => .stuck) P) {H0 : Hp} (hv : RepR T H0 F1 H1 r v) : ∃ c, r = .val (.bl c) ∧ v = .bl c ∧ Post T W F H σ ρ (if c = true then t else e) P := by
  cases r with
  | fresh xs => exact h.elim
  | val x =>
    cases x with
    | bl b =>
      refine ⟨b, rfl, hv, ?_⟩
      cases b <;> exact h
    | _ => exact h.elim
theorem post_boolT {α : Type} {T : Sta} {W : WX} {F H : Hp} {σ : L2.St} {ρ : Env} {r : RV} {t e : Res α} {P : α → Env → Hp → Hp → Prop}
    (h : Post T W F H σ ρ (match r with | .val (.bl true) => t | .val (.bl false) => e | _ => .stuck) P) : ∃ c, r = .val (.bl c) ∧ Post T W F H σ ρ (if c = true then t else e) P := by
  cases r with
  | fresh xs => exact h.elim
  | val x =>
    cases x with
    | bl b =>
      refine ⟨b, rfl, ?_⟩
      cases b <;> exact h
    | _ => exact h.elim
theorem RepR.back' {T : Sta} {F H F1 H1 F2 H2 : Hp} {σ : L2.St} {ρ ρ1 : Env} (s : Ste T F H σ ρ F1 H1 ρ1) {Q : VK} {r : RV} (h : ∀ v, RepR T H F2 H2 r v → Q v H2) : ∀ v, RepR T H1 F2 H2 r v → Q v H2 := fun v k => h v (k.back s)
theorem tE_and {a b : E} (h : tE T W (PV.ev Φ G fl (.and a b)) σ H Q) : tAndV (tE T W (PV.ev Φ G fl a)) (tE T W (PV.ev Φ G fl b)) σ H Q := by
  obtain ⟨F, ρ, R, P⟩ := h
  refine ⟨F, ρ, R, (Post.bnd (m := PV.ev Φ G fl a ρ) P).mono fun r ρ1 F1 H1 s ⟨_, k⟩ v hv => ?_⟩
  obtain ⟨c, er, ev, k⟩ := post_bool k hv
  refine ⟨c, ev, ?_⟩
  cases c with
  | true => exact ⟨F1, ρ1, s.en, k.backR s⟩
  | false => exact k F1 H1 (Ste.refl s.en) _ rfl
theorem tE_or {a b : E} (h : tE T W (PV.ev Φ G fl (.or a b)) σ H Q) : tOrV (tE T W (PV.ev Φ G fl a)) (tE T W (PV.ev Φ G fl b)) σ H Q := by
  obtain ⟨F, ρ, R, P⟩ := h
  refine ⟨F, ρ, R, (Post.bnd (m := PV.ev Φ G fl a ρ) P).mono fun r ρ1 F1 H1 s ⟨_, k⟩ v hv => ?_⟩
  obtain ⟨c, er, ev, k⟩ := post_bool k hv
  refine ⟨c, ev, ?_⟩
  cases c with
  | false => exact ⟨F1, ρ1, s.en, k.backR s⟩
  | true => exact k F1 H1 (Ste.refl s.en) _ rfl
theorem tT_and {a b : E} {Q : Bool → Hp → Prop} (h : tT T W (PV.ev Φ G fl (.and a b)) σ H Q) : tAnd (tT T W (PV.ev Φ G fl a)) (tT T W (PV.ev Φ G fl b)) σ H Q := by
  obtain ⟨F, ρ, R, P⟩ := h
  refine ⟨F, ρ, R, (Post.bnd (m := PV.ev Φ G fl a ρ) P).mono fun r ρ1 F1 H1 s ⟨_, k⟩ => ?_⟩
  obtain ⟨c, er, k⟩ := post_boolT k
  refine ⟨c, er, ?_⟩
  cases c with
  | true => exact ⟨F1, ρ1, s.en, k⟩
  | false =>
    obtain ⟨b, e, q⟩ := k F1 H1 (Ste.refl s.en)
    cases e
    exact q
theorem tT_or {a b : E} {Q : Bool → Hp → Prop} (h : tT T W (PV.ev Φ G fl (.or a b)) σ H Q) : tOr (tT T W (PV.ev Φ G fl a)) (tT T W (PV.ev Φ G fl b)) σ H Q := by
  obtain ⟨F, ρ, R, P⟩ := h
  refine ⟨F, ρ, R, (Post.bnd (m := PV.ev Φ G fl a ρ) P).mono fun r ρ1 F1 H1 s ⟨_, k⟩ => ?_⟩
  obtain ⟨c, er, k⟩ := post_boolT k
  refine ⟨c, er, ?_⟩
  cases c with
  | false => exact ⟨F1, ρ1, s.en, k⟩
  | true =>
    obtain ⟨b, e, q⟩ := k F1 H1 (Ste.refl s.en)
    cases e
    exact q
theorem tT_not {a : E} {Q : Bool → Hp → Prop} (h : tT T W (PV.ev Φ G fl (.not a)) σ H Q) : tNot (tT T W (PV.ev Φ G fl a)) σ H Q := by
  obtain ⟨F, ρ, R, P⟩ := h
  refine ⟨F, ρ, R, (Post.bnd (m := PV.ev Φ G fl a ρ) P).mono fun r ρ1 F1 H1 s ⟨_, k⟩ => ?_⟩
  cases r with
  | fresh xs => exact k.elim
  | val x =>
    cases x with
    | bl b =>
      obtain ⟨c, e, q⟩ := k F1 H1 (Ste.refl s.en)
      cases e
      exact ⟨b, rfl, q⟩
    | _ => exact k.elim
theorem tE_not {a : E} (h : tE T W (PV.ev Φ G fl (.not a)) σ H Q) : tNotV (tE T W (PV.ev Φ G fl a)) σ H Q := by
  obtain ⟨F, ρ, R, P⟩ := h
  refine ⟨F, ρ, R, (Post.bnd (m := PV.ev Φ G fl a ρ) P).mono fun r ρ1 F1 H1 s ⟨_, k⟩ v hv => ?_⟩
  cases r with
  | fresh xs => exact k.elim
  | val x =>
    cases x with
    | bl b => exact ⟨b, hv, k F1 H1 (Ste.refl s.en) _ rfl⟩
    | _ => exact k.elim
theorem tE_ite {c a b : E} (h : tE T W (PV.ev Φ G fl (.ite c a b)) σ H Q) : tIf (tT T W (PV.ev Φ G fl c)) (tE T W (PV.ev Φ G fl a)) (tE T W (PV.ev Φ G fl b)) σ H Q := by
  obtain ⟨F, ρ, R, P⟩ := h
  refine ⟨F, ρ, R, (Post.bnd (m := PV.ev Φ G fl c ρ) P).mono fun r ρ1 F1 H1 s ⟨_, k⟩ => ?_⟩
  obtain ⟨d, er, k⟩ := post_boolT k
  refine ⟨d, er, ?_⟩
  cases d with
  | true => exact ⟨F1, ρ1, s.en, k.backR s⟩
  | false => exact ⟨F1, ρ1, s.en, k.backR s⟩
theorem tE_chain {o o' : Op2} {a b c : E} (h : tE T W (PV.ev Φ G fl (.chain o o' a b c)) σ H Q) {r r' : R2}
    (w : ∀ {F H : Hp} {x y : Val} {v u : V} {z : RV} {Q : VK}, op2 o x y = some z → RepB T F H x v → RepB T F H y u → Le F H → Wants T F H z Q → r v u H Q)
    (w' : ∀ {F H : Hp} {x y : Val} {v u : V} {z : RV} {Q : VK}, op2 o' x y = some z → RepB T F H x v → RepB T F H y u → Le F H → Wants T F H z Q → r' v u H Q) :
    tChain r r' (tO T W (opd a (PV.ev Φ G fl a))) (tO T W (opd b (PV.ev Φ G fl b))) (tO T W (opd c (PV.ev Φ G fl c))) σ H Q := by
  obtain ⟨F, ρ, R, P⟩ := h
  refine ⟨F, ρ, R, (Post.bnd (m := opd a (PV.ev Φ G fl a) ρ) P).mono fun x ρ1 F1 H1 s ⟨_, k⟩ v hv => ?_⟩
  refine ⟨F1, ρ1, s.en, (Post.bnd (m := opd b (PV.ev Φ G fl b) ρ1) k).mono fun y ρ2 F2 H2 s2 ⟨_, k2⟩ u hu => ?_⟩
  cases e : x.get ρ2 with
  | none => rw [e] at k2; exact k2.elim
  | some x' =>
    cases e2 : y.get ρ2 with
    | none => rw [e, e2] at k2; exact k2.elim
    | some y' =>
      rw [e, e2] at k2
      dsimp only at k2
      cases eo : op2 o x' y' with
      | none => rw [eo] at k2; exact k2.elim
      | some z =>
        rw [eo] at k2
        refine w eo (RepO.get s2.en (hv.mono s2.tr.ff) e) (hu.get s2.en e2) s2.en.le fun F3 H3 v3 t3 rv3 => ?_
        obtain ⟨d, er, ev3, k3⟩ := post_bool k2 rv3
        have s3 : Ste T F2 H2 σ ρ2 F3 H3 ρ2 := (Ste.refl s2.en).more t3
        refine ⟨d, ev3, ?_⟩
        cases d with
        | false => exact k3 F3 H3 s3 _ rfl
        | true =>
          refine ⟨F3, ρ2, s3.en, (Post.bnd (m := opd c (PV.ev Φ G fl c) ρ2) (Post.shift s3 k3)).mono fun zz ρ4 F4 H4 s4 ⟨_, k4⟩ w4 hw => ?_⟩
          cases e4 : y.get ρ4 with
          | none => rw [e4] at k4; exact k4.elim
          | some y4 =>
            cases e5 : zz.get ρ4 with
            | none => rw [e4, e5] at k4; exact k4.elim
            | some z4 =>
              rw [e4, e5] at k4
              obtain ⟨zr, ez, wz⟩ := post_lift (((s.trans s2).trans s3).trans s4) k4
              exact w' ez (RepO.get s4.en ((hu.mono s3.tr.ff).mono s4.tr.ff) e4) (hw.get s4.en e5) s4.en.le wz
end
end PV
end

section
set_option Elab.async false
set_option linter.all false
set_option autoImplicit false
set_option maxRecDepth 100000
set_option maxHeartbeats 4000000
/-! PV5: lists, tuples, calls, instances, slices. -/
namespace PV
open PySem PySem.Spec L2

section
variable {T : Sta} {W : WX} {σ : L2.St} {H : Hp} {Q : VK} {Φ : Fns} {G : Nat → Option Val} {fl : Nat → List Str}
/-! ### lists of arguments -/
theorem tA_nil {Q : List V → Hp → Prop} (h : tA T W (PV.ev Φ G fl .nil) σ H Q) : tNil σ H Q := by
  obtain ⟨F, ρ, R, P⟩ := h
  obtain ⟨xs, e, k⟩ := P F H (Ste.refl R)
  cases e
  exact k [] rfl
theorem tA_cons {e es : E} {Q : List V → Hp → Prop} (h : tA T W (PV.ev Φ G fl (.cons e es)) σ H Q) : tCons (tE T W (PV.ev Φ G fl e)) (tA T W (PV.ev Φ G fl es)) σ H Q := by
  obtain ⟨F, ρ, R, P⟩ := h
  refine ⟨F, ρ, R, (Post.seq (m := PV.ev Φ G fl e ρ) P).mono fun r ρ1 F1 H1 s k v hv => ?_⟩
  obtain ⟨F2, s2, le, rp⟩ := RepR.frz R s hv
  refine ⟨F2, ρ1, s2.en, (Post.seq (m := PV.ev Φ G fl es ρ1) (k F2 H1 s2)).mono fun rs ρ3 F3 H3 s3 k3 => ?_⟩
  have q := k3 F3 H3 s3
  cases rs with
  | val x => exact q.elim
  | fresh xs =>
    refine ⟨xs, rfl, fun vs hvs => ?_⟩
    obtain ⟨ys, e, k⟩ := q F3 H3 (Ste.refl s3.en)
    cases e
    exact k (v :: vs) ⟨v, vs, rfl, Rep.mono s3.tr.ff _ _ rp, hvs⟩
theorem itemsOf_rep {F : Hp} {x : Val} {v : V} {xs : List Val} (h : Rep T F x v) (e : itemsOf x = some xs) : ∃ a vs, v = .ref a ∧ (SqT T.K F a vs ∨ SqL T.K F a vs) ∧ Reps T F xs vs := by
  obtain ⟨a, vs, e1, h1, r⟩ := RepB.items (Le.refl F) (RepB.of (Le.refl F) h) e
  exact ⟨a, vs, e1, h1.symm, r⟩
theorem tA_star {e es : E} {Q : List V → Hp → Prop} (h : tA T W (PV.ev Φ G fl (.star e es)) σ H Q) : StX.tStar T.K (tE T W (PV.ev Φ G fl e)) (tA T W (PV.ev Φ G fl es)) σ H Q := by
  obtain ⟨F, ρ, R, P⟩ := h
  refine ⟨F, ρ, R, (Post.seq (m := PV.ev Φ G fl e ρ) P).mono fun r ρ1 F1 H1 s k v hv => ?_⟩
  obtain ⟨F2, s2, le, rp⟩ := RepR.frz R s hv
  have q0 := k F2 H1 s2
  cases hi : itemsOf r.frz with
  | none => rw [hi] at q0; exact q0.elim
  | some ys =>
    rw [hi] at q0
    obtain ⟨a, vs, ev, hs, rs⟩ := itemsOf_rep rp hi
    refine ⟨a, vs, ev, hs.imp s2.en.le.sqt s2.en.le.sql, F2, ρ1, s2.en, (Post.seq (m := PV.ev Φ G fl es ρ1) q0).mono fun rs' ρ3 F3 H3 s3 k3 => ?_⟩
    have q := k3 F3 H3 s3
    cases rs' with
    | val x => exact q.elim
    | fresh xs =>
      refine ⟨xs, rfl, fun vs' hvs => ?_⟩
      obtain ⟨zs, e, k⟩ := q F3 H3 (Ste.refl s3.en)
      cases e
      exact k (vs ++ vs') ((Reps.mono s3.tr.ff _ _ rs).append hvs)
/-! ### displays -/
theorem lim {n : Nat} (h : n ≤ listLim) : n ≤ sizeLine := sz100 h
/-- a tuple's display: the new object, known -/
def tTupD (t : TA) : TE := fun σ H Q => t σ H fun xs H1 => xs.length ≤ sizeLine ∧ ∀ (p : Addr) (o : Obj), H1 p = none → o.dict = none → Q (.ref p) (upd H1 p (.frz o (.tup xs)))
theorem pe_tupD {X : Cx} {es : List Expr} {t : TA} {pos : Pos} {x1 : Nat} (h : PA X es t) : PE X (.Tuple es x1 pos) (tTupD t) := by
  refine ⟨fun pins s σ H Q I hq => ?_⟩
  refine wpAny_Tuple_spliced (thn (h.run pos pins s σ H _ I hq) fun us s1 ⟨xs, H1, I1, r, z, q⟩ => ⟨by rw [← r.length]; exact z, ?_⟩)
  have hf : H1 s1.heap.objs.size = none := I1.hok.fresh (Nat.le_refl _)
  have hget : (s1.heap.push { cls := .type "tuple", data := .seq us.toArray }).get? s1.heap.objs.size = some { cls := .type "tuple", data := .seq us.toArray } := Heap.get?_push_size _ rfl
  refine ⟨.ref s1.heap.objs.size, upd H1 s1.heap.objs.size (.frz { cls := .type "tuple", data := .seq us.toArray } (.tup xs)), I1.laid (t' := s1.toks) (fun b u e => Heap.get?_push_of_some _ e) (Nat.le_refl _) ⟨hget, ?_⟩, rfl, q _ _ hf rfl⟩
  exact ⟨z, us, r, ⟨_, hget, rfl, _, rfl⟩⟩
theorem tE_tup {es : E} (h : tE T W (PV.ev Φ G fl (.tup es)) σ H Q) : tTupD (tA T W (PV.ev Φ G fl es)) σ H Q := by
  obtain ⟨F, ρ, R, P⟩ := h
  refine ⟨F, ρ, R, (Post.seq (m := PV.ev Φ G fl es ρ) P).mono fun r ρ1 F1 H1 s k => ?_⟩
  have q := k F1 H1 s
  cases r with
  | val x => exact q.elim
  | fresh xs =>
    dsimp only at q
    split at q
    · rename_i hz
      refine ⟨xs, rfl, fun vs hvs => ⟨by rw [hvs.len]; exact lim hz, fun p o hp ho => ?_⟩⟩
      have s1 : Ste T F1 H1 σ ρ1 (upd F1 p (.frz o (.tup vs))) (upd H1 p (.frz o (.tup vs))) ρ1 := (Ste.refl s.en).newF hp
      exact q _ _ s1 (.ref p) ⟨p, vs, rfl, ⟨.inl (.inr ⟨o, upd_same⟩), fun _ => ⟨o, upd_same, ho⟩⟩, Reps.mono s1.tr.ff _ _ hvs⟩
    · exact q.elim
theorem tE_lst {es : E} (h : tE T W (PV.ev Φ G fl (.lst es)) σ H Q) : tLst (tA T W (PV.ev Φ G fl es)) σ H Q := by
  obtain ⟨F, ρ, R, P⟩ := h
  refine ⟨F, ρ, R, (Post.seq (m := PV.ev Φ G fl es ρ) P).mono fun r ρ1 F1 H1 s k => ?_⟩
  have q := k F1 H1 s
  cases r with
  | val x => exact q.elim
  | fresh xs =>
    dsimp only at q
    split at q
    · rename_i hz
      refine ⟨xs, rfl, fun vs hvs => ⟨by rw [hvs.len]; exact lim hz, fun p hp => ?_⟩⟩
      have s1 : Ste T F1 H1 σ ρ1 F1 (upd H1 p (.lst vs)) ρ1 := (Ste.refl s.en).newH hp
      exact q _ _ s1 (.ref p) ⟨p, vs, rfl, s.nonOf hp, s.en.le.none_of hp, upd_same, hvs⟩
    · exact q.elim

/-! ### a def's promise -/
def ownO (o : Slot) (vs : List V) : Addr → Prop := fun a => isOwn o = true ∧ vs.head? = some (.ref a)
structure ArgOk (T : Sta) (F H : Hp) (D : Def) (o : Slot) (xs : List Val) (vs : List V) : Prop where
  le : Le F H
  /-- the parameters' slots -/
  sl : ∃ ws, Reps T F xs ws ∧ (match D.kind with | .plain => vs = ws | _ => ∃ a, vs = .ref a :: ws ∧ isOwn o = true ∧ SlotOk T F H (some (.ref a)) o)
def FPost (T : Sta) (F H : Hp) (vs : List V) (o : Slot) (Q : VK) (E : XK) : FR → Prop
  | .ok r o' => ∀ F' H' v, Tr F H (ownO o vs) F' H' → RepR T H F' H' r v → SlotOk T F' H' vs.head? o' → Q v H'
  | .exc e o' => ∀ F' H' cls d, Tr F H (ownO o vs) F' H' → ExcAt T F' H' e cls d → SlotOk T F' H' vs.head? o' → E cls d H'
  | .stuck => False
def spF (T : Sta) (D : Def) (f : Slot → List Val → FR) : Sp := fun vs H Q E => ∃ F o xs, ArgOk T F H D o xs vs ∧ FPost T F H vs o Q E (f o xs)
/-- f answers only where D can be begun -/
def Tight (D : Def) (f : Slot → List Val → FR) : Prop := ∀ o xs, f o xs ≠ .stuck → okStart D o xs = true
theorem spF_len {D : Def} {f : Slot → List Val → FR} (tf : Tight D f) {vs : List V} {E : XK} (h : spF T D f vs H Q E) : vs.length = D.np := by
  obtain ⟨F, o, xs, ⟨_, ws, r, h2⟩, hp⟩ := h
  have h1 : okStart D o xs = true := tf o xs fun z => by rw [z] at hp; exact hp
  have e := r.len
  unfold okStart at h1
  cases hk : D.kind with
  | plain =>
    rw [hk] at h1 h2
    cases o with
    | un => rw [show vs = ws from h2, e]; simpa using h1
    | _ => cases h1
  | ownL =>
    rw [hk] at h1 h2
    obtain ⟨a, e2, _⟩ := h2
    cases o with
    | ol _ => rw [e2, List.length_cons, e]; simpa using h1
    | _ => cases h1
  | ini =>
    rw [hk] at h1 h2
    obtain ⟨a, e2, _⟩ := h2
    rw [e2, List.length_cons, e]
    cases o with
    | oo c ks ys =>
      cases ks with
      | cons _ _ => cases h1
      | nil =>
        cases ys with
        | cons _ _ => cases h1
        | nil => simpa using h1
    | _ => cases h1

/-! ### calls -/
theorem noOwn {vs : List V} {a : Addr} : ¬ ownO .un vs a := fun h => Bool.noConfusion h.1
theorem Tr.un {F H F' H' : Hp} {vs : List V} {O : Addr → Prop} (t : Tr F H (ownO .un vs) F' H') : Tr F H O F' H' := t.wide fun _ h => absurd h noOwn
theorem tE_call {f : Nat} {es : E} {D : Def} (hk : D.kind = .plain) (h : tE T W (PV.ev Φ G fl (.call f es)) σ H Q) : tCallS (spF T D (Φ f)) (WE W) (tA T W (PV.ev Φ G fl es)) σ H Q := by
  obtain ⟨F, ρ, R, P⟩ := h
  refine ⟨F, ρ, R, (Post.seq (m := PV.ev Φ G fl es ρ) P).mono fun r ρ1 F1 H1 s k => ?_⟩
  have q := k F1 H1 s
  cases r with
  | val x => exact q.elim
  | fresh xs =>
    refine ⟨xs, rfl, fun vs hvs => ⟨F1, .un, xs, ⟨s.en.le, vs, hvs, by rw [hk]⟩, ?_⟩⟩
    dsimp only at q
    cases e : Φ f .un xs with
    | stuck => rw [e] at q; exact q.elim
    | exc x o =>
      rw [e] at q
      exact fun F' H' cls d t xa _ => q F' H' cls d ((Ste.refl s.en).more t.un) xa
    | ok r o =>
      rw [e] at q
      exact fun F' H' v t rv _ => q F' H' ((Ste.refl s.en).more t.un) v (rv.back s)
/-- behind a call that was handed the own thing at slot i -/
theorem REnv.lent {F H F' H' : Hp} {ρ : Env} {i : Nat} {a : Addr} {o' : Slot} {O : Addr → Prop} (R : REnv T F H σ ρ) (ha : OwnAt σ ρ i a) (hO : ∀ b, O b → b = a) (t : Tr F H O F' H') (so : SlotOk T F' H' (some (.ref a)) o') :
    Ste T F H σ ρ F' H' (ρ.set i o') := by
  obtain ⟨s0, e0, o0, z0⟩ := ha
  have il : i < ρ.length := (List.getElem?_eq_some_iff.mp e0).1
  have sub : ∀ j b, OwnAt σ (ρ.set i o') j b → OwnAt σ ρ j b := fun j b ⟨s, es, eo, ez⟩ => by
    by_cases hj : i = j
    · subst hj
      rw [z0] at ez
      cases ez
      exact ⟨s0, e0, o0, z0⟩
    · rw [List.getElem?_set_ne hj] at es
      exact ⟨s, es, eo, ez⟩
  refine ⟨t.wide fun b hb => ⟨i, by rw [hO b hb]; exact ⟨s0, e0, o0, z0⟩⟩, ⟨t.fh, by rw [List.length_set]; exact R.len, fun j s es => ?_, fun j k b hj hk => R.dj j k b (sub j b hj) (sub k b hk)⟩, sub⟩
  by_cases hj : i = j
  · subst hj
    rw [List.getElem?_set_self il] at es
    cases es
    rw [z0]
    exact so
  · rw [List.getElem?_set_ne hj] at es
    have k := R.sl j s es
    have nb : ∀ b, OwnAt σ ρ j b → ¬ O b := fun b hb z => hj (R.dj i j a ⟨s0, e0, o0, z0⟩ (by rw [← hO b z]; exact hb))
    have at_ : ∀ {b : Addr}, σ[j]?.join = some (.ref b) → σ[j]? = some (some (.ref b)) := fun {b} e1 => by
      cases z : σ[j]? with
      | none => rw [z] at e1; cases e1
      | some w => rw [z] at e1; exact congrArg some e1
    cases s with
    | un => trivial
    | v x => obtain ⟨v, q, r⟩ := k; exact ⟨v, q, r.mono t.ff⟩
    | ol ys =>
      obtain ⟨b, us, q, g1, g2, r'⟩ := k
      have n := nb b ⟨_, es, rfl, at_ q⟩
      exact ⟨b, us, q, t.hh b _ g1 n, t.nw b (by rw [g1]; simp) n g2, Reps.mono t.ff _ _ r'⟩
    | oo c ks ys =>
      obtain ⟨b, dx, us, q, g1, g2, g3, r'⟩ := k
      have n := nb b ⟨_, es, rfl, at_ q⟩
      exact ⟨b, dx, us, q, t.hh b _ g1 n, t.nw b (by rw [g1]; simp) n g2, g3, Reps.mono t.ff _ _ r'⟩
theorem ownO_ref {o : Slot} {a b : Addr} {vs : List V} (h : ownO o (.ref a :: vs) b) : b = a := by
  have := h.2
  simp only [List.head?_cons, Option.some.injEq, V.ref.injEq] at this
  exact this.symm
theorem tE_ocall {f i : Nat} {es : E} {D : Def} (hk : D.kind = .ownL) (h : tE T W (PV.ev Φ G fl (.ocall f i es)) σ H Q) : tCallS (spF T D (Φ f)) (WE W) (tCons (tVar i) (tA T W (PV.ev Φ G fl es))) σ H Q := by
  obtain ⟨F, ρ, R, P⟩ := h
  simp only [PV.ev] at P
  cases e0 : ρ[i]? with
  | none => rw [e0] at P; exact P.elim
  | some s0 =>
    rw [e0] at P
    cases s0 with
    | ol ys0 =>
      dsimp only at P
      obtain ⟨a, vs0, ea0, _⟩ := R.sl i _ e0
      have ea : σ[i]? = some (some (.ref a)) := by
        cases z : σ[i]? with
        | none => rw [z] at ea0; cases ea0
        | some w => rw [z] at ea0; exact congrArg some ea0
      refine ⟨.ref a, ea, F, ρ, R, (Post.seq (m := PV.ev Φ G fl es ρ) P).mono fun r ρ1 F1 H1 s k => ?_⟩
      have q := k F1 H1 s
      cases r with
      | val x => exact q.elim
      | fresh xs =>
        cases e1 : ρ1[i]? with
        | none => rw [e1] at q; exact q.elim
        | some s1 =>
          rw [e1] at q
          cases s1 with
          | ol ys =>
            refine ⟨xs, rfl, fun vs hvs => ?_⟩
            have so := s.en.sl i _ e1
            rw [ea] at so
            have oa : OwnAt σ ρ1 i a := ⟨_, e1, rfl, ea⟩
            refine ⟨F1, .ol ys, xs, ⟨s.en.le, vs, hvs, by rw [hk]; exact ⟨a, rfl, rfl, so⟩⟩, ?_⟩
            dsimp only at q
            cases e : Φ f (.ol ys) xs with
            | stuck => rw [e] at q; exact q.elim
            | exc x o => rw [e] at q; exact fun F' H' cls d t xa so' => q F' H' cls d (s.en.lent oa (fun b hb => ownO_ref hb) t so') xa
            | ok r o => rw [e] at q; exact fun F' H' v t rv so' => q F' H' (s.en.lent oa (fun b hb => ownO_ref hb) t so') v (rv.back s)
          | un => exact q.elim
          | v _ => exact q.elim
          | oo _ _ _ => exact q.elim
    | un => exact P.elim
    | v _ => exact P.elim
    | oo _ _ _ => exact P.elim
/-- behind a call that was handed a new thing at p -/
theorem Ste.lentNew {F H F1 H1 F' H' : Hp} {ρ ρ1 : Env} {p : Addr} {O : Addr → Prop} (R : REnv T F H σ ρ) (s : Ste T F H σ ρ F1 H1 ρ1) (h0 : H p = none) (hO : ∀ b, O b → b = p) (t : Tr F1 H1 O F' H') : Ste T F H σ ρ F' H' ρ1 := by
  have nb : ∀ j b, OwnAt σ ρ1 j b → ¬ O b := fun j b hb z => by
    have := (R.own_at (s.sb j b hb)).1
    rw [hO b z] at this
    exact this h0
  refine ⟨s.tr.trans t fun b hb => .inr (by rw [hO b hb]; exact h0), ⟨t.fh, s.en.len, fun j sl es => ?_, s.en.dj⟩, s.sb⟩
  have k := s.en.sl j sl es
  have at_ : ∀ {b : Addr}, σ[j]?.join = some (.ref b) → σ[j]? = some (some (.ref b)) := fun {b} e1 => by
    cases z : σ[j]? with
    | none => rw [z] at e1; cases e1
    | some w => rw [z] at e1; exact congrArg some e1
  cases sl with
  | un => trivial
  | v x => obtain ⟨v, q, r⟩ := k; exact ⟨v, q, r.mono t.ff⟩
  | ol ys =>
    obtain ⟨b, us, q, g1, g2, r'⟩ := k
    have n := nb j b ⟨_, es, rfl, at_ q⟩
    exact ⟨b, us, q, t.hh b _ g1 n, t.nw b (by rw [g1]; simp) n g2, Reps.mono t.ff _ _ r'⟩
  | oo c ks ys =>
    obtain ⟨b, dx, us, q, g1, g2, g3, r'⟩ := k
    have n := nb j b ⟨_, es, rfl, at_ q⟩
    exact ⟨b, dx, us, q, t.hh b _ g1 n, t.nw b (by rw [g1]; simp) n g2, g3, Reps.mono t.ff _ _ r'⟩
theorem tE_fcall {f : Nat} {e0 es : E} {D : Def} (hk : D.kind = .ownL) (h : tE T W (PV.ev Φ G fl (.fcall f e0 es)) σ H Q) : tCallS (spF T D (Φ f)) (WE W) (tCons (tE T W (PV.ev Φ G fl e0)) (tA T W (PV.ev Φ G fl es))) σ H Q := by
  obtain ⟨F, ρ, R, P⟩ := h
  refine ⟨F, ρ, R, (Post.seq (m := PV.ev Φ G fl e0 ρ) P).eqn.mono fun r0 ρ0 F0 H0 s0 ⟨e0', k0⟩ v0 hv0 => ?_⟩
  refine ⟨F0, ρ0, s0.en, (Post.seq (m := PV.ev Φ G fl es ρ0) (k0 F0 H0 s0)).eqn.mono fun r ρ1 F1 H1 s1 ⟨e1', k1⟩ => ?_⟩
  have q := k1 F1 H1 s1
  simp only [PV.ev, e0', e1', Res.bnd] at P
  cases r0 with
  | val x => exact q.elim
  | fresh ys =>
    cases r with
    | val x => exact q.elim
    | fresh xs =>
      refine ⟨xs, rfl, fun vs hvs => ?_⟩
      obtain ⟨p, us, rfl, h0, f0, hp, rp⟩ := hv0
      have no : ¬ Own σ ρ0 p := fun ⟨j, hj⟩ => (R.own_at (s0.sb j p hj)).1 h0
      have p1 := s1.tr.hh p _ hp no
      have f1 := s1.tr.nw p (by rw [hp]; simp) no f0
      refine ⟨F1, .ol ys, xs, ⟨s1.en.le, vs, hvs, by rw [hk]; exact ⟨p, rfl, rfl, p, us, rfl, p1, f1, Reps.mono s1.tr.ff _ _ rp⟩⟩, ?_⟩
      dsimp only at P
      cases e : Φ f (.ol ys) xs with
      | stuck => rw [e] at P; exact P.elim
      | exc x o =>
        rw [e] at P
        exact fun F' H' cls d t xa so' => P F' H' cls d (Ste.lentNew R (s0.trans s1) h0 (fun b hb => ownO_ref hb) t) xa
      | ok r o =>
        rw [e] at P
        refine fun F' H' v t rv so' => P F' H' (Ste.lentNew R (s0.trans s1) h0 (fun b hb => ownO_ref hb) t) v ?_
        exact rv.back (s0.trans s1)
/-! ### instances -/
theorem tE_mk {c f : Nat} {es : E} {D : Def} (hk : D.kind = .ini) (h : tE T W (PV.ev Φ G fl (.mk c f es)) σ H Q) (hfl : fl = T.fields) (hh : c < T.ncl) (E : L2.St → XK) (hE : E = WE W) :
    (tA T W (PV.ev Φ G fl es)) σ H fun vs H1 => ∀ x dx, H1 x = none → H1 dx = none → dx ≠ x → spF T D (Φ f) (.ref x :: vs) (upd (upd H1 dx (.own x)) x (.ins (T.cl c) dx [])) (fun v H2 => v = .non ∧ Q (.ref x) H2) (E σ) := by
  subst hE hfl
  obtain ⟨F, ρ, R, P⟩ := h
  refine ⟨F, ρ, R, (Post.seq (m := PV.ev Φ G T.fields es ρ) P).eqn.mono fun r ρ1 F1 H1 s1 ⟨e1', k1⟩ => ?_⟩
  simp only [PV.ev, e1', Res.bnd] at P
  have q := k1 F1 H1 s1
  cases r with
  | val x => exact q.elim
  | fresh xs =>
    refine ⟨xs, rfl, fun vs hvs x dx hx hdx hne => ?_⟩
    have s2 : Ste T F H σ ρ F1 (upd H1 dx (.own x)) ρ1 := s1.newH hdx
    have hx2 : (upd H1 dx (.own x)) x = none := by rw [upd_ne hne.symm]; exact hx
    have s3 : Ste T F H σ ρ F1 (upd (upd H1 dx (.own x)) x (.ins (T.cl c) dx [])) ρ1 := s2.newH hx2
    have fx : F1 x = none := s1.en.le.none_of hx
    refine ⟨F1, .oo c [] [], xs, ⟨s3.en.le, vs, hvs, by rw [hk]; exact ⟨x, rfl, rfl, x, dx, [], rfl, upd_same, fx, rfl, rfl⟩⟩, ?_⟩
    dsimp only at P
    cases e : Φ f (.oo c [] []) xs with
    | stuck => rw [e] at P; exact P.elim
    | exc y o =>
      rw [e] at P
      exact fun F' H' cls d t xa so' => P F' H' cls d (Ste.lentNew R s3 (s2.nonOf hx2) (fun b hb => ownO_ref hb) t) xa
    | ok r o =>
      rw [e] at P
      refine fun F' H' v t rv so' => ?_
      have st := Ste.lentNew R s3 (s2.nonOf hx2) (fun b hb => ownO_ref hb) t
      cases r with
      | fresh _ => exact P.elim
      | val y =>
        cases y with
        | non =>
          cases o with
          | oo d ks ys =>
            dsimp only at P
            split at P
            · rename_i hd
              obtain ⟨rfl, rfl⟩ := hd
              obtain ⟨a, dx', ws, ea, h1, f1, hl, rw'⟩ := so'
              cases ea
              have st2 := st.fix R (s2.nonOf hx2) h1 f1
              exact ⟨rv, P _ H' st2 (.ref x) ⟨x, dx', ws, rfl, upd_same, ⟨hl, hh⟩, Reps.mono (Le.new f1) _ _ rw'⟩⟩
            · exact P.elim
          | un => exact P.elim
          | v _ => exact P.elim
          | ol _ => exact P.elim
        | _ => exact P.elim
theorem lookup_zip {F : Hp} : ∀ {ks : List Str} {xs : List Val} {vs : List V} {k : Str} {x : Val}, Reps T F xs vs → (ks.zip xs).lookup k = some x → ∃ v, (ks.zip vs).lookup k = some v ∧ Rep T F x v
  | [], _, _, _, _, _, e => by simp at e
  | _ :: _, [], _, _, _, _, e => by simp at e
  | a :: ks, y :: xs, vs, k, x, ⟨v, ws, h1, h2, h3⟩, e => by
    subst h1
    rw [List.zip_cons_cons, List.lookup_cons] at e ⊢
    cases h : k == a with
    | true => rw [h] at e; cases e; exact ⟨v, rfl, h2⟩
    | false => rw [h] at e; exact lookup_zip h3 e
theorem tE_fld {c : Nat} {k : Str} {o : E} (hfl : fl = T.fields) (hc : Cls T.K (T.cl c)) (hn : NoAttr T.K (T.cl c) k) (h : tE T W (PV.ev Φ G fl (.fld c k o)) σ H Q) : tFld T.K (tE T W (PV.ev Φ G fl o)) k σ H Q := by
  subst hfl
  obtain ⟨F, ρ, R, P⟩ := h
  refine ⟨F, ρ, R, (Post.seq (m := PV.ev Φ G T.fields o ρ) P).mono fun r ρ1 F1 H1 s kk v hv => ?_⟩
  have q := kk F1 H1 s
  cases r with
  | fresh _ => exact q.elim
  | val x =>
    cases x with
    | ins d xs =>
      dsimp only at q
      split at q
      · rename_i hd
        subst hd
        obtain ⟨a, dx, vs, e, h1, hl, r⟩ := hv
        cases el : ((T.fields d).zip xs).lookup k with
        | none => rw [el] at q; exact q.elim
        | some y =>
          rw [el] at q
          obtain ⟨w, ew, rw'⟩ := lookup_zip r el
          exact ⟨a, T.cl d, dx, _, w, e, s.en.le a _ h1, hc, hn, ew, q F1 H1 (Ste.refl s.en) w rw'⟩
      · exact q.elim
    | _ => exact q.elim
theorem tE_prop {c f : Nat} {k : Str} {o : E} {D : Def} (hk : D.kind = .plain) (h : tE T W (PV.ev Φ G fl (.prop c k f o)) σ H Q) : tProp (T.cl c) (spF T D (Φ f)) [] (fun _ _ _ => False) (tE T W (PV.ev Φ G fl o)) σ H Q := by
  obtain ⟨F, ρ, R, P⟩ := h
  refine ⟨F, ρ, R, (Post.seq (m := PV.ev Φ G fl o ρ) P).mono fun r ρ1 F1 H1 s kk v hv => ?_⟩
  have q := kk F1 H1 s
  cases r with
  | fresh _ => exact q.elim
  | val x =>
    cases x with
    | ins d xs =>
      dsimp only at q
      split at q
      · rename_i hd
        subst hd
        have hv' := hv
        obtain ⟨a, dx, vs, e, h1, hl, r⟩ := hv
        subst e
        refine ⟨a, dx, _, rfl, s.en.le a _ h1, F1, .un, [.ins d xs], ⟨s.en.le, [.ref a], ⟨.ref a, [], rfl, hv', rfl⟩, by rw [hk]⟩, ?_⟩
        cases e : Φ f .un [.ins d xs] with
        | stuck => rw [e] at q; exact q.elim
        | exc x o => rw [e] at q; exact q.elim
        | ok r o =>
          rw [e] at q
          exact fun F' H' v t rv _ => q F' H' ((Ste.refl s.en).more t.un) v (rv.back s)
      · exact q.elim
    | _ => exact q.elim
/-! ### slices -/
theorem cutL_rep {F : Hp} {xs : List Val} {vs : List V} (r : Reps T F xs vs) (lo hi : Option Int) : Reps T F (cutL xs lo hi) (cutV vs lo hi) := by
  unfold cutL cutV
  rw [r.len]
  exact (r.drop _).take _
def tP (T : Sta) (W : WX) (m : Env → Res (Option Int)) : TO := fun σ H Q => ∃ F ρ, REnv T F H σ ρ ∧ Post T W F H σ ρ (m ρ) fun o _ F' H' => Q o H'
theorem tP_none {m : Env → Res RV} {Q : Option Int → Hp → Prop} (h : tP T W (partE .non m) σ H Q) : tNoPart σ H Q := by
  obtain ⟨F, ρ, R, P⟩ := h
  exact P F H (Ste.refl R)
theorem tP_some {e : E} {m : Env → Res RV} {Q : Option Int → Hp → Prop} (he : ∀ ρ, partE e m ρ = (m ρ).bnd partK) (h : tP T W (partE e m) σ H Q) : tPart (tE T W m) σ H Q := by
  obtain ⟨F, ρ, R, P⟩ := h
  rw [he ρ] at P
  refine ⟨F, ρ, R, P.seq.mono fun r ρ1 F1 H1 s k v hv => ?_⟩
  have q := k F1 H1 s
  cases r with
  | fresh _ => exact q.elim
  | val x =>
    cases x with
    | int i => exact ⟨i, hv, q F1 H1 (Ste.refl s.en)⟩
    | _ => exact q.elim
def rSlB (K : PySem.W.Frag) : V → Option Int → Option Int → Hp → VK → Prop := fun x lo hi H Q => rSlA K x lo hi H Q ∨ rSlL K x lo hi H Q
theorem tE_slice {a lo hi : E} (h : tE T W (PV.ev Φ G fl (.slice a lo hi)) σ H Q) : tSl (rSlB T.K) (tO T W (opd a (PV.ev Φ G fl a))) (tP T W (partE lo (PV.ev Φ G fl lo))) (tP T W (partE hi (PV.ev Φ G fl hi))) σ H Q := by
  obtain ⟨F, ρ, R, P⟩ := h
  refine ⟨F, ρ, R, (Post.bnd (m := opd a (PV.ev Φ G fl a) ρ) P).mono fun x ρ1 F1 H1 s1 ⟨_, k1⟩ v hv => ?_⟩
  refine ⟨F1, ρ1, s1.en, (Post.bnd (m := partE lo (PV.ev Φ G fl lo) ρ1) k1).mono fun l ρ2 F2 H2 s2 ⟨_, k2⟩ => ?_⟩
  refine ⟨F2, ρ2, s2.en, (Post.bnd (m := partE hi (PV.ev Φ G fl hi) ρ2) k2).mono fun h ρ3 F3 H3 s3 ⟨_, k3⟩ => ?_⟩
  have so := (hv.mono s2.tr.ff).mono s3.tr.ff
  have ss := (s1.trans s2).trans s3
  cases e : x.get ρ3 with
  | none => rw [e] at k3; exact k3.elim
  | some y =>
    rw [e] at k3
    have rb := RepO.get s3.en so e
    cases y with
    | tup d xs =>
      dsimp only at k3
      obtain ⟨p, vs, ev, ⟨h1, _⟩, r⟩ := rb
      refine .inl ⟨p, vs, ev, s3.en.le.sqt h1, fun hw => ?_, fun hw q hq => ?_⟩
      · have ec : cutL xs l h = xs := by
          unfold cutL
          rw [← r.len, hw.1, hw.2, List.drop_zero, Nat.sub_zero, r.len, List.take_length]
        rw [ec] at k3
        subst ev
        exact k3 F3 H3 (Ste.refl s3.en) _ ⟨p, vs, rfl, ⟨h1, fun z => nomatch z⟩, r⟩
      · have s4 : Ste T F3 H3 σ ρ3 (upd F3 q (.tup (cutV vs l h))) (upd H3 q (.tup (cutV vs l h))) ρ3 := (Ste.refl s3.en).newF hq
        exact k3 _ _ s4 _ ⟨q, _, rfl, ⟨.inl (.inl upd_same), fun z => nomatch z⟩, Reps.mono s4.tr.ff _ _ (cutL_rep r l h)⟩
    | lst xs =>
      obtain ⟨p, vs, ev, h1, r⟩ := rb
      refine .inr ⟨p, vs, ev, SqL.of h1, fun q hq => ?_⟩
      have s4 : Ste T F3 H3 σ ρ3 F3 (upd H3 q (.lst (cutV vs l h))) ρ3 := (Ste.refl s3.en).newH hq
      exact k3 _ _ s4 _ ⟨q, _, rfl, ss.nonOf hq, s3.en.le.none_of hq, upd_same, cutL_rep r l h⟩
    | scr xs =>
      obtain ⟨p, vs, ev, h1, r⟩ := rb
      refine .inr ⟨p, vs, ev, s3.en.le.sql h1, fun q hq => ?_⟩
      have s4 : Ste T F3 H3 σ ρ3 F3 (upd H3 q (.lst (cutV vs l h))) ρ3 := (Ste.refl s3.en).newH hq
      exact k3 _ _ s4 _ ⟨q, _, rfl, ss.nonOf hq, s3.en.le.none_of hq, upd_same, cutL_rep r l h⟩
    | _ => exact k3.elim
/-! ### f-strings -/
end
end PV
end

section
set_option Elab.async false
set_option linter.all false
set_option autoImplicit false
set_option maxRecDepth 100000
set_option maxHeartbeats 4000000
/-! PV6: states whose slots change; what is walked; comprehensions. -/
namespace PV
open PySem PySem.Spec L2

structure SteS (T : Sta) (z : Bool) (F H : Hp) (σ : L2.St) (ρ : Env) (F' H' : Hp) (σ' : L2.St) (ρ' : Env) : Prop where
  tr : Tr F H (Own σ ρ) F' H'
  en : REnv T F' H' σ' ρ'
  sb : ∀ a, Own σ' ρ' a → Own σ ρ a ∨ H a = none
  /-- the first slot is kept, where it must be -/
  fx : z = true → σ'[(0:Nat)]? = σ[(0:Nat)]?
section
variable {z : Bool} {T : Sta} {F H F1 H1 F2 H2 F' H' : Hp} {σ σ1 σ2 : L2.St} {ρ ρ1 ρ2 : Env}
theorem SteS.refl (R : REnv T F H σ ρ) : SteS T z F H σ ρ F H σ ρ := ⟨Tr.refl R.le, R, fun _ h => .inl h, fun _ => rfl⟩
theorem none_back {O : Addr → Prop} (t : Tr F H O F1 H1) {a : Addr} (h : H1 a = none) : H a = none := by
  cases e : H a with
  | none => rfl
  | some o => exact absurd h (t.th a (by rw [e]; simp))
theorem SteS.trans (a : SteS T z F H σ ρ F1 H1 σ1 ρ1) (b : SteS T z F1 H1 σ1 ρ1 F2 H2 σ2 ρ2) : SteS T z F H σ ρ F2 H2 σ2 ρ2 :=
  ⟨a.tr.trans b.tr a.sb, b.en, fun x h => (b.sb x h).elim (fun h => a.sb x h) fun h => .inr (none_back a.tr h), fun h => (b.fx h).trans (a.fx h)⟩
theorem Ste.toS (s : Ste T F H σ ρ F' H' ρ1) : SteS T z F H σ ρ F' H' σ ρ1 := ⟨s.tr, s.en, fun a h => .inl (s.sub a h), fun _ => rfl⟩
theorem SteS.more {F3 H3 : Hp} (a : SteS T z F H σ ρ F1 H1 σ1 ρ1) (t : Tr F1 H1 noO F3 H3) : SteS T z F H σ ρ F3 H3 σ1 ρ1 :=
  ⟨a.tr.trans t fun x h => h.elim, a.en.step t, a.sb, a.fx⟩
/-- a thing that is new and no slot's own is changed -/
theorem SteS.poke (s : SteS T z F H σ ρ F1 H1 σ1 ρ1) {p : Addr} {o : HO} (h0 : H p = none) (h1 : H1 p ≠ none) (f1 : F1 p = none) (no : ¬ Own σ1 ρ1 p) : SteS T z F H σ ρ F1 (upd H1 p o) σ1 ρ1 := by
  have ne : ∀ a, H a ≠ none → a ≠ p := fun a h z => h (by rw [z]; exact h0)
  have fe : ∀ a u, F1 a = some u → a ≠ p := fun a u h z => by rw [z, f1] at h; cases h
  refine ⟨⟨s.tr.ff, fun a u e => ?_, fun a u e n => ?_, s.tr.nw, fun a e => ?_⟩, ⟨fun a u e => ?_, s.en.len, fun i sl e => ?_, s.en.dj⟩, s.sb, s.fx⟩
  · rw [upd_ne (fe a u e)]; exact s.tr.fh a u e
  · rw [upd_ne (ne a (by rw [e]; simp))]; exact s.tr.hh a u e n
  · rw [upd_ne (ne a e)]; exact s.tr.th a e
  · rw [upd_ne (fe a u e)]; exact s.tr.fh a u e
  · have k := s.en.sl i sl e
    have nb : ∀ b, isOwn sl = true → σ1[i]?.join = some (.ref b) → b ≠ p := fun b hs hb z => no ⟨i, sl, e, hs, by
      rw [← z]
      cases q : σ1[i]? with
      | none => rw [q] at hb; cases hb
      | some w => rw [q] at hb; exact congrArg some hb⟩
    cases sl with
    | un => trivial
    | v x => exact k
    | ol ys => obtain ⟨b, us, q, g1, g2, r'⟩ := k; exact ⟨b, us, q, by rw [upd_ne (nb b rfl q)]; exact g1, g2, r'⟩
    | oo c ks ys => obtain ⟨b, dx, us, q, g1, g2, g3, r'⟩ := k; exact ⟨b, dx, us, q, by rw [upd_ne (nb b rfl q)]; exact g1, g2, g3, r'⟩
end

/-! ### what is walked -/
structure Walks (T : Sta) (F H : Hp) (O : Addr → Prop) (items : List Val) (J : It) : Prop where
  stop : ∀ F2 H2 i, Tr F H O F2 H2 → items.length ≤ i → J.stop i H2
  go : ∀ F2 H2 i x, Tr F H O F2 H2 → items[i]? = some x → J.go i H2
  yld : ∀ F2 H2 i x v H3, Tr F H O F2 H2 → items[i]? = some x → J.yld i H2 v H3 → ∃ F3, Tr F2 H2 noO F3 H3 ∧ Rep T F3 x v
/-- the frame's own list at a is walked -/
def Lent (σ : L2.St) (ρ : Env) (it : E) (a : Addr) : Prop := ∃ i, it = .iOwn i ∧ OwnAt σ ρ i a
def tI (T : Sta) (W : WX) (it : E) (m : Env → Res RV) : TI := fun σ H R => ∃ F ρ, REnv T F H σ ρ ∧ Post T W F H σ ρ (m ρ) fun r ρ' F' H' => ∃ items, r = .fresh items ∧ ∀ J, (∀ O : Addr → Prop, (∀ a, O a → ¬ Lent σ ρ' it a) → Walks T F' H' O items J) → R J H'
theorem _root_.L2.PI.imp {X : Cx} {tg e : Expr} {t t' : TI} (h : PI X tg e t) (k : ∀ σ H Q, t' σ H Q → t σ H Q) : PI X tg e t' := ⟨fun pins s σ H Q I q => h.run pins s σ H Q I (k σ H Q q)⟩

/-- a list or a tuple -/
def iSeq (K : PySem.W.Frag) (tl : TE) : TI := fun σ H R => tl σ H fun x H1 => ∃ a, x = .ref a ∧ (((∃ xs, SqL K H1 a xs) ∧ R (Itl K a) H1) ∨ ((∃ xs, SqT K H1 a xs) ∧ R (Itt K a) H1))
theorem pi_seq {X : Cx} {tg l : Expr} {tl : TE} (hl : PE X l tl) : PI X tg l (iSeq X.K tl) := by
  have e1 : ∀ (pins : List (Addr × Obj)) (s1 : Shared) (σ : L2.St) (H1 : Hp) (a : Addr) (R : It → Hp → Prop), Inv X pins σ H1 s1 → (∃ xs, SqL X.K H1 a xs) → R (Itl X.K a) H1 → wpAny (model X.prog X.w) X.A (pyIter (.ref a)) (PIE X pins σ tg R) X.xe s1 := by
    intro pins s1 σ H1 a R I1 hq q
    obtain ⟨xs, hq⟩ := hq
    obtain ⟨its, rv, p, hz⟩ := I1.list hq
    refine wpAny_pyIter_list p.isList ?_
    refine ⟨s1.heap.objs.size, [s1.heap.objs.size], _, _, H1, rfl, I1.kept (t' := s1.toks) fun b o e => Heap.get?_push_of_some _ e, turn_list a _, ⟨_, Heap.get?_push_size _ rfl, rfl, rfl⟩, fun b hb => ?_, q⟩
    have e : b = s1.heap.objs.size := by simpa using hb
    subst e
    exact I1.fpOk (Nat.le_refl _) (I1.hok.fresh (Nat.le_refl _))
  have e2 : ∀ (pins : List (Addr × Obj)) (s1 : Shared) (σ : L2.St) (H1 : Hp) (a : Addr) (R : It → Hp → Prop), Inv X pins σ H1 s1 → (∃ xs, SqT X.K H1 a xs) → R (Itt X.K a) H1 → wpAny (model X.prog X.w) X.A (pyIter (.ref a)) (PIE X pins σ tg R) X.xe s1 := by
    intro pins s1 σ H1 a R I1 hq q
    obtain ⟨xs, hq⟩ := hq
    obtain ⟨its, rv, p, hz⟩ := I1.tuple hq
    refine wpAny_pyIter_tuple (show s1.heap.IsTuple a its.toArray from p) ?_
    refine ⟨s1.heap.objs.size, [s1.heap.objs.size], _, _, H1, rfl, I1.kept (t' := s1.toks) fun b o e => Heap.get?_push_of_some _ e, turn_tuple a _, ⟨_, Heap.get?_push_size _ rfl, rfl, rfl⟩, fun b hb => ?_, q⟩
    have e : b = s1.heap.objs.size := by simpa using hb
    subst e
    exact I1.fpOk (Nat.le_refl _) (I1.hok.fresh (Nat.le_refl _))
  refine ⟨fun pins s σ H R I h => ?_⟩
  refine thn (hl.run pins s σ H _ I h) fun v s1 ⟨x, H1, I1, r1, a, e, q⟩ => ?_
  subst e
  cases r1
  rcases q with ⟨hq, q⟩ | ⟨hq, q⟩
  · exact e1 pins s1 σ H1 a R I1 hq q
  · exact e2 pins s1 σ H1 a R I1 hq q
section
variable {T : Sta} {W : WX} {σ : L2.St} {H : Hp} {R : It → Hp → Prop} {Φ : Fns} {G : Nat → Option Val} {fl : Nat → List Str}
theorem walks_lst {F : Hp} {O : Addr → Prop} {a : Addr} {xs : List Val} {vs : List V} (h : ∀ F2 H2, Tr F H O F2 H2 → SqL T.K H2 a vs) (r : Reps T F xs vs) : Walks T F H O xs (Itl T.K a) where
  stop := fun F2 H2 i t hi => ⟨vs, h F2 H2 t, by rw [r.len]; exact hi⟩
  go := fun F2 H2 i x t hx => let ⟨v, e, _⟩ := r.get hx; ⟨vs, v, h F2 H2 t, e⟩
  yld := fun F2 H2 i x v H3 t hx ⟨e, k⟩ => by
    obtain ⟨v', e', r'⟩ := r.get hx
    have := k vs (h F2 H2 t)
    rw [e'] at this
    cases this
    subst e
    exact ⟨F2, Tr.refl t.fh, r'.mono t.ff⟩
theorem walks_tup {F : Hp} {O : Addr → Prop} {a : Addr} {xs : List Val} {vs : List V} (h : ∀ F2 H2, Tr F H O F2 H2 → SqT T.K H2 a vs) (r : Reps T F xs vs) : Walks T F H O xs (Itt T.K a) where
  stop := fun F2 H2 i t hi => ⟨vs, h F2 H2 t, by rw [r.len]; exact hi⟩
  go := fun F2 H2 i x t hx => let ⟨v, e, _⟩ := r.get hx; ⟨vs, v, h F2 H2 t, e⟩
  yld := fun F2 H2 i x v H3 t hx ⟨e, k⟩ => by
    obtain ⟨v', e', r'⟩ := r.get hx
    have := k vs (h F2 H2 t)
    rw [e'] at this
    cases this
    subst e
    exact ⟨F2, Tr.refl t.fh, r'.mono t.ff⟩
theorem walks_itr {F : Hp} {O : Addr → Prop} (lo : Int) (n : Nat) : Walks T F H O (rangeV lo n) (Itr lo n) := by
  have hl : (rangeV lo n).length = n := by unfold rangeV; rw [List.length_map, List.length_range]
  refine ⟨fun F2 H2 i t hi => by rw [hl] at hi; exact hi, fun F2 H2 i x t hx => ?_, fun F2 H2 i x v H3 t hx ⟨e, k⟩ => ?_⟩
  · have := (List.getElem?_eq_some_iff.mp hx).1
    rw [hl] at this
    exact this
  · have hi := (List.getElem?_eq_some_iff.mp hx).1
    rw [hl] at hi
    unfold rangeV at hx
    rw [List.getElem?_map, List.getElem?_range hi] at hx
    cases hx
    subst e
    exact ⟨F2, Tr.refl t.fh, k⟩
theorem tI_seq {e : E} (h : tI T W (.iSeq e) (PV.ev Φ G fl (.iSeq e)) σ H R) : iSeq T.K (tE T W (PV.ev Φ G fl e)) σ H R := by
  obtain ⟨F, ρ, Rn, P⟩ := h
  refine ⟨F, ρ, Rn, (Post.seq (m := PV.ev Φ G fl e ρ) P).mono fun r ρ1 F1 H1 s k v hv => ?_⟩
  obtain ⟨F2, s2, le, rp⟩ := RepR.frz Rn s hv
  have q := k F2 H1 s2
  cases hx : r.frz with
  | lst xs =>
    rw [hx] at q rp
    obtain ⟨items, e1, q⟩ := q F2 H1 (Ste.refl s2.en)
    cases e1
    obtain ⟨a, vs, ev, h1, rs⟩ := rp
    exact ⟨a, ev, .inl ⟨⟨vs, SqL.of (s2.en.le _ _ h1)⟩, q _ fun O hO => walks_lst (fun F3 H3 t => SqL.of (t.fh _ _ (t.ff _ _ h1))) rs⟩⟩
  | tup d xs =>
    rw [hx] at q rp
    obtain ⟨items, e1, q⟩ := q F2 H1 (Ste.refl s2.en)
    cases e1
    obtain ⟨a, vs, ev, ⟨h1, _⟩, rs⟩ := rp
    exact ⟨a, ev, .inr ⟨⟨vs, s2.en.le.sqt h1⟩, q _ fun O hO => walks_tup (fun F3 H3 t => t.fh.sqt (t.ff.sqt h1)) rs⟩⟩
  | scr xs =>
    rw [hx] at q rp
    obtain ⟨items, e1, q⟩ := q F2 H1 (Ste.refl s2.en)
    cases e1
    obtain ⟨a, vs, ev, h1, rs⟩ := rp
    exact ⟨a, ev, .inl ⟨⟨vs, s2.en.le.sql h1⟩, q _ fun O hO => walks_lst (fun F3 H3 t => t.fh.sql (t.ff.sql h1)) rs⟩⟩
  | _ => rw [hx] at q; exact q.elim
theorem tI_own {i : Nat} (h : tI T W (.iOwn i) (PV.ev Φ G fl (.iOwn i)) σ H R) : iList T.K (tVar i) σ H R := by
  obtain ⟨F, ρ, Rn, P⟩ := h
  simp only [PV.ev] at P
  cases e : ρ[i]? with
  | none => rw [e] at P; exact P.elim
  | some s =>
    rw [e] at P
    cases s with
    | ol xs =>
      obtain ⟨a, vs, e1, h1, h2, r⟩ := Rn.sl i _ e
      have ei : σ[i]? = some (some (.ref a)) := by
        cases z : σ[i]? with
        | none => rw [z] at e1; cases e1
        | some w => rw [z] at e1; exact congrArg some e1
      obtain ⟨items, e2, q⟩ := P F H (Ste.refl Rn)
      cases e2
      exact ⟨.ref a, ei, a, rfl, ⟨vs, SqL.of h1⟩, q _ fun O hO => walks_lst (fun F3 H3 t => SqL.of (t.hh a _ h1 fun z => hO a z ⟨i, rfl, ⟨_, e, rfl, ei⟩⟩)) r⟩
    | un => exact P.elim
    | v _ => exact P.elim
    | oo _ _ _ => exact P.elim
theorem tI_rng1 {a : E} (h : tI T W (.iRng1 a) (PV.ev Φ G fl (.iRng1 a)) σ H R) : iRng1 (tCons (tE T W (PV.ev Φ G fl a)) tNil) σ H R := by
  obtain ⟨F, ρ, Rn, P⟩ := h
  refine ⟨F, ρ, Rn, (Post.seq (m := PV.ev Φ G fl a ρ) P).mono fun r ρ1 F1 H1 s k v hv => ?_⟩
  have q := k F1 H1 s
  cases r with
  | fresh _ => exact q.elim
  | val x =>
    cases x with
    | int n =>
      dsimp only at q
      split at q
      · rename_i hb
        obtain ⟨items, e1, q⟩ := q F1 H1 (Ste.refl s.en)
        cases e1
        have hb1 : -(100000 : Int) ≤ n ∧ n ≤ 100000 := hb
        exact ⟨n, by rw [show v = .int n from hv], by omega, by omega, q _ fun O hO => walks_itr 0 n.toNat⟩
      · exact q.elim
    | _ => exact q.elim
theorem tI_rng2 {a b : E} (h : tI T W (.iRng2 a b) (PV.ev Φ G fl (.iRng2 a b)) σ H R) : iRng2 (tCons (tE T W (PV.ev Φ G fl a)) (tCons (tE T W (PV.ev Φ G fl b)) tNil)) σ H R := by
  obtain ⟨F, ρ, Rn, P⟩ := h
  refine ⟨F, ρ, Rn, (Post.seq (m := PV.ev Φ G fl a ρ) P).mono fun r ρ1 F1 H1 s k v hv => ?_⟩
  refine ⟨F1, ρ1, s.en, (Post.seq (m := PV.ev Φ G fl b ρ1) (k F1 H1 s)).mono fun r2 ρ2 F2 H2 s2 k2 v2 hv2 => ?_⟩
  have q := k2 F2 H2 s2
  cases r with
  | fresh _ => exact q.elim
  | val x =>
    cases x with
    | int m =>
      cases r2 with
      | fresh _ => exact q.elim
      | val y =>
        cases y with
        | int n =>
          dsimp only at q
          split at q
          · rename_i hb
            obtain ⟨items, e1, q⟩ := q F2 H2 (Ste.refl s2.en)
            cases e1
            have hb1 : -(100000 : Int) ≤ m ∧ m ≤ 100000 ∧ -(100000 : Int) ≤ n ∧ n ≤ 100000 := hb
            exact ⟨m, n, by rw [show v = .int m from hv, show v2 = .int n from hv2], ⟨by omega, by omega, by omega, by omega⟩, q _ fun O hO => walks_itr m (n - m).toNat⟩
          · exact q.elim
        | _ => exact q.elim
    | _ => exact q.elim
end
end PV
end

section
set_option Elab.async false
set_option linter.all false
set_option autoImplicit false
set_option maxRecDepth 100000
set_option maxHeartbeats 4000000
/-! PV7: targets, comprehensions. -/
namespace PV
open PySem PySem.Spec L2

/-! ### slots set -/
section
variable {T : Sta} {F H : Hp} {σ : L2.St} {ρ : Env}
theorem ownAt_set {i : Nat} {v : V} {x : Val} {j : Nat} {a : Addr} (h : OwnAt (σ.set i (some v)) (ρ.set i (.v x)) j a) : OwnAt σ ρ j a ∧ j ≠ i := by
  obtain ⟨s, es, eo, ez⟩ := h
  by_cases hj : i = j
  · subst hj
    by_cases hi : i < ρ.length
    · rw [List.getElem?_set_self hi] at es
      cases es
      cases eo
    · rw [List.getElem?_eq_none (by rw [List.length_set]; omega)] at es
      cases es
  · rw [List.getElem?_set_ne hj] at es ez
    exact ⟨⟨s, es, eo, ez⟩, fun z => hj z.symm⟩
theorem REnv.set (R : REnv T F H σ ρ) {i : Nat} {v : V} {x : Val} (r : Rep T F x v) : REnv T F H (σ.set i (some v)) (ρ.set i (.v x)) := by
  refine ⟨R.le, by rw [List.length_set, List.length_set]; exact R.len, fun j s es => ?_, fun j k a hj hk => R.dj j k a (ownAt_set hj).1 (ownAt_set hk).1⟩
  by_cases hj : i = j
  · subst hj
    by_cases hi : i < ρ.length
    · rw [List.getElem?_set_self hi] at es
      cases es
      rw [List.getElem?_set_self (by rw [R.len]; exact hi)]
      exact ⟨v, rfl, r⟩
    · rw [List.getElem?_eq_none (by rw [List.length_set]; omega)] at es
      cases es
  · rw [List.getElem?_set_ne hj] at es ⊢
    exact R.sl j s es
/-- one slot forgotten -/
theorem ownAt_un {i : Nat} {j : Nat} {o : Option V} {a : Addr} (h : OwnAt (σ.set i o) (ρ.set i .un) j a) : OwnAt σ ρ j a ∧ j ≠ i := by
  obtain ⟨s, es, eo, ez⟩ := h
  by_cases hj : i = j
  · subst hj
    by_cases hi : i < ρ.length
    · rw [List.getElem?_set_self hi] at es
      cases es
      cases eo
    · rw [List.getElem?_eq_none (by rw [List.length_set]; omega)] at es
      cases es
  · rw [List.getElem?_set_ne hj] at es ez
    exact ⟨⟨s, es, eo, ez⟩, fun z => hj z.symm⟩
theorem REnv.unset (R : REnv T F H σ ρ) (i : Nat) (o : Option V) : REnv T F H (σ.set i o) (ρ.set i .un) := by
  refine ⟨R.le, by rw [List.length_set, List.length_set]; exact R.len, fun j s es => ?_, fun j k a hj hk => R.dj j k a (ownAt_un hj).1 (ownAt_un hk).1⟩
  by_cases hj : i = j
  · subst hj
    by_cases hi : i < ρ.length
    · rw [List.getElem?_set_self hi] at es
      cases es
      trivial
    · rw [List.getElem?_eq_none (by rw [List.length_set]; omega)] at es
      cases es
  · rw [List.getElem?_set_ne hj] at es ⊢
    exact R.sl j s es
theorem set_same_o (σ : L2.St) (i : Nat) : σ.set i (σ.getD i none) = σ := by
  by_cases h : i < σ.length
  · rw [List.getD_eq_getElem?_getD, List.getElem?_eq_getElem h]
    exact List.set_getElem_self h
  · rw [List.set_eq_of_length_le (by omega)]
theorem REnv.out (R : REnv T F H σ ρ) (it : E) : REnv T F H σ (outE ρ it) := by
  cases it with
  | iOwn i =>
    have := R.unset i (σ.getD i none)
    rw [set_same_o] at this
    exact this
  | _ => exact R
theorem ownAt_out {it : E} {j : Nat} {a : Addr} (h : OwnAt σ (outE ρ it) j a) : OwnAt σ ρ j a := by
  cases it with
  | iOwn i =>
    have h' : OwnAt (σ.set i (σ.getD i none)) (ρ.set i .un) j a := by rw [set_same_o]; exact h
    exact (ownAt_un h').1
  | _ => exact h
theorem wipeE_len (ρ : Env) : ∀ vs : List Nat, (wipeE ρ vs).length = ρ.length
  | [] => rfl
  | v :: vs => by show ((wipeE ρ vs).set v .un).length = _; rw [List.length_set, wipeE_len ρ vs]
theorem wipe_cons (σ : L2.St) (v : Nat) (vs : List Nat) : wipe σ (v :: vs) = (wipe σ vs).set v none := rfl
theorem REnv.wiped (R : REnv T F H σ ρ) : ∀ vs : List Nat, REnv T F H (wipe σ vs) (wipeE ρ vs)
  | [] => R
  | v :: vs => (REnv.wiped R vs).unset v none
theorem ownAt_wipe : ∀ {vs : List Nat} {j : Nat} {a : Addr}, OwnAt (wipe σ vs) (wipeE ρ vs) j a → OwnAt σ ρ j a ∧ j ∉ vs
  | [], _, _, h => ⟨h, by simp⟩
  | v :: vs, j, a, h => by
    obtain ⟨h1, h2⟩ := ownAt_un (show OwnAt ((wipe σ vs).set v none) ((wipeE ρ vs).set v .un) j a from h)
    obtain ⟨h3, h4⟩ := ownAt_wipe h1
    exact ⟨h3, by simp only [List.mem_cons, not_or]; exact ⟨h2, h4⟩⟩
end
/-! ### targets -/
def tgs : Tg → List Nat
  | .nm i => [i]
  | .tp is => is
def gTs : List Nat → TGs
  | [] => gNil
  | i :: is => gCons (gName i) (gTs is)
def gT (K : PySem.W.Frag) : Tg → TG
  | .nm i => gName i
  | .tp is => gTup K is.length (gTs is)
theorem set_comm_o {α : Type} (l : List α) {i j : Nat} {a b : α} (h : i ≠ j) : (l.set i a).set j b = (l.set j b).set i a := List.set_comm a b h
theorem wipe_set {σ : L2.St} {i : Nat} {o : Option V} : ∀ {vs : List Nat}, i ∈ vs → wipe (σ.set i o) vs = wipe σ vs
  | [], h => by simp at h
  | v :: vs, h => by
    rw [wipe_cons, wipe_cons]
    by_cases hi : i ∈ vs
    · rw [wipe_set hi]
    · have e : i = v := by
        rcases List.mem_cons.mp h with e | h
        · exact e
        · exact absurd h hi
      subst e
      have : ∀ {ws : List Nat}, i ∉ ws → wipe (σ.set i o) ws = (wipe σ ws).set i o := by
        intro ws
        induction ws with
        | nil => intro _; rfl
        | cons w ws ih =>
          intro hn
          simp only [List.mem_cons, not_or] at hn
          rw [wipe_cons, wipe_cons, ih hn.2, set_comm_o _ hn.1]
      rw [this hi, List.set_set]
theorem wipe_wipe (σ : L2.St) {vs : List Nat} : ∀ {ws : List Nat}, (∀ i ∈ ws, i ∈ vs) → wipe (wipe σ ws) vs = wipe σ vs
  | [], _ => rfl
  | w :: ws, h => by
    rw [wipe_cons, wipe_set (h w (by simp)), wipe_wipe σ fun i hi => h i (by simp [hi])]
section
variable {T : Sta} {F H : Hp}
theorem gTs_ok : ∀ (is : List Nat) {xs : List Val} {vs : List V} {σ : L2.St} {ρ : Env} {Q : L2.St → Hp → Prop}, REnv T F H σ ρ → Reps T F xs vs → xs.length = is.length →
    (∀ σ', REnv T F H σ' ((is.zip xs).foldl (fun ρ p => ρ.set p.1 (.v p.2)) ρ) → (∀ j a, OwnAt σ' ((is.zip xs).foldl (fun ρ p => ρ.set p.1 (.v p.2)) ρ) j a → OwnAt σ ρ j a) → (∀ ws, (∀ i ∈ is, i ∈ ws) → wipe σ' ws = wipe σ ws) → (∀ j, j ∉ is → σ'[j]? = σ[j]?) → Q σ' H) → gTs is vs σ H Q
  | [], [], vs, σ, ρ, Q, R, r, _, k => ⟨r, k σ R (fun _ _ h => h) (fun _ _ => rfl) fun _ _ => rfl⟩
  | [], _ :: _, _, _, _, _, _, _, e, _ => by simp at e
  | _ :: _, [], _, _, _, _, _, _, e, _ => by simp at e
  | i :: is, x :: xs, vs, σ, ρ, Q, R, ⟨v, ws, h1, h2, h3⟩, e, k => by
    subst h1
    refine ⟨v, ws, rfl, gTs_ok is (R.set h2) h3 (by simpa using e) fun σ' R' sub hw hj => ?_⟩
    refine k σ' R' (fun j a h => (ownAt_set (sub j a h)).1) (fun us hu => ?_) fun j hn => ?_
    · rw [hw us fun j hj => hu j (by simp [hj]), wipe_set (hu i (by simp))]
    · simp only [List.mem_cons, not_or] at hn
      rw [hj j hn.2, List.getElem?_set_ne fun z => hn.1 z.symm]
theorem gT_ok (t : Tg) {x : Val} {v : V} {σ : L2.St} {ρ ρ' : Env} {Q : L2.St → Hp → Prop} (R : REnv T F H σ ρ) (r : Rep T F x v) (e : setT t x ρ = some ρ')
    (k : ∀ σ', REnv T F H σ' ρ' → (∀ j a, OwnAt σ' ρ' j a → OwnAt σ ρ j a) → (∀ ws, (∀ i ∈ tgs t, i ∈ ws) → wipe σ' ws = wipe σ ws) → (∀ j, j ∉ tgs t → σ'[j]? = σ[j]?) → Q σ' H) : gT T.K t v σ H Q := by
  cases t with
  | nm i =>
    cases e
    exact k _ (R.set r) (fun j a h => (ownAt_set h).1) (fun ws hw => wipe_set (hw i (by simp [tgs]))) fun j hn => List.getElem?_set_ne fun z => hn (by simp [tgs, z])
  | tp is =>
    cases x with
    | tup d xs =>
      simp only [setT] at e
      split at e
      · rename_i hl
        cases e
        obtain ⟨a, vs, ev, ⟨h1, _⟩, rs⟩ := r
        refine ⟨a, vs, ev, R.le.sqt h1, by rw [rs.len]; exact hl, gTs_ok is R rs hl fun σ' R' sub hw hj => k σ' R' sub hw hj⟩
      · cases e
    | _ => cases e
end

/-! ### a block -/
structure SteC (T : Sta) (F H : Hp) (σ : L2.St) (ρ : Env) (F' H' : Hp) (σ' : L2.St) (ρ' : Env) : Prop where
  tr : Tr F H (Own σ ρ) F' H'
  en : REnv T F' H' σ' ρ'
  sb : ∀ i a, OwnAt σ' ρ' i a → OwnAt σ ρ i a
section
variable {z : Bool} {T : Sta} {F H F1 H1 F2 H2 : Hp} {σ σ1 σ2 : L2.St} {ρ ρ1 ρ2 : Env}
theorem SteC.refl (R : REnv T F H σ ρ) : SteC T F H σ ρ F H σ ρ := ⟨Tr.refl R.le, R, fun _ _ h => h⟩
theorem SteC.toS (hz : z = false) (a : SteC T F H σ ρ F1 H1 σ1 ρ1) : SteS T z F H σ ρ F1 H1 σ1 ρ1 := ⟨a.tr, a.en, fun x ⟨i, h⟩ => .inl ⟨i, a.sb i x h⟩, fun h => by rw [hz] at h; cases h⟩
theorem SteC.trans (a : SteC T F H σ ρ F1 H1 σ1 ρ1) (b : SteC T F1 H1 σ1 ρ1 F2 H2 σ2 ρ2) : SteC T F H σ ρ F2 H2 σ2 ρ2 :=
  ⟨a.tr.trans b.tr fun x ⟨i, h⟩ => .inl ⟨i, a.sb i x h⟩, b.en, fun i x h => a.sb i x (b.sb i x h)⟩
theorem SteC.more (a : SteC T F H σ ρ F1 H1 σ1 ρ1) (t : Tr F1 H1 noO F2 H2) : SteC T F H σ ρ F2 H2 σ1 ρ1 := ⟨a.tr.trans t fun x h => h.elim, a.en.step t, a.sb⟩
theorem Ste.toC (s : Ste T F H σ ρ F1 H1 ρ1) : SteC T F H σ ρ F1 H1 σ ρ1 := ⟨s.tr, s.en, s.sb⟩
theorem SteC.poke (s : SteC T F H σ ρ F1 H1 σ1 ρ1) (R : REnv T F H σ ρ) {p : Addr} {o : HO} (h0 : H p = none) (h1 : H1 p ≠ none) (f1 : F1 p = none) : SteC T F H σ ρ F1 (upd H1 p o) σ1 ρ1 := by
  have q := (s.toS (z := false) rfl).poke (o := o) h0 h1 f1 fun ⟨i, h⟩ => (R.own_at (s.sb i p h)).1 h0
  exact ⟨q.tr, q.en, s.sb⟩
/-- slots from two states put together -/
theorem Ste.merge {ρE ρ0 ρw : Env} {σ0 : L2.St} (R1 : REnv T F1 H1 σ ρ1) (c : SteC T F1 H1 σ0 ρ0 F2 H2 σ0 ρw) (hs : ∀ j b, OwnAt σ0 ρ0 j b → OwnAt σ ρ1 j b) (hl : ρE.length = ρ1.length)
    (hj : ∀ j : Nat, (ρE[j]? = ρ1[j]? ∧ ∀ s, ρ0[j]? = some s → isOwn s = false) ∨ (ρE[j]? = ρw[j]? ∧ σ0[j]? = σ[j]?)) : Ste T F1 H1 σ ρ1 F2 H2 ρE := by
  have sub : ∀ j b, OwnAt σ ρE j b → OwnAt σ ρ1 j b := fun j b ⟨s, es, eo, ez⟩ => by
    rcases hj j with ⟨h1, _⟩ | ⟨h1, h2⟩
    · exact ⟨s, by rw [← h1]; exact es, eo, ez⟩
    · exact hs j b (c.sb j b ⟨s, by rw [← h1]; exact es, eo, by rw [h2]; exact ez⟩)
  refine ⟨c.tr.wide fun b ⟨j, h⟩ => ⟨j, hs j b h⟩, ⟨c.en.le, by rw [hl]; exact R1.len, fun j s es => ?_, fun i j a hi hj' => R1.dj i j a (sub i a hi) (sub j a hj')⟩, sub⟩
  rcases hj j with ⟨h1, h2⟩ | ⟨h1, h2⟩
  · rw [h1] at es
    have k := R1.sl j s es
    have nb : ∀ b, isOwn s = true → σ[j]?.join = some (.ref b) → ¬ Own σ0 ρ0 b := fun b ho hb ⟨i, hi⟩ => by
      have e1 := R1.dj i j b (hs i b hi) ⟨s, es, ho, by
        cases z : σ[j]? with
        | none => rw [z] at hb; cases hb
        | some w => rw [z] at hb; exact congrArg some hb⟩
      subst e1
      obtain ⟨s', q1, q2, _⟩ := hi
      rw [h2 s' q1] at q2
      cases q2
    cases s with
    | un => trivial
    | v x => obtain ⟨v, q, r⟩ := k; exact ⟨v, q, r.mono c.tr.ff⟩
    | ol ys =>
      obtain ⟨b, us, q, g1, g2, r'⟩ := k
      have n := nb b rfl q
      exact ⟨b, us, q, c.tr.hh b _ g1 n, c.tr.nw b (by rw [g1]; simp) n g2, Reps.mono c.tr.ff _ _ r'⟩
    | oo cc ks ys =>
      obtain ⟨b, dx, us, q, g1, g2, g3, r'⟩ := k
      have n := nb b rfl q
      exact ⟨b, dx, us, q, c.tr.hh b _ g1 n, c.tr.nw b (by rw [g1]; simp) n g2, g3, Reps.mono c.tr.ff _ _ r'⟩
  · rw [h1] at es
    have k := c.en.sl j s es
    rw [h2] at k
    exact k
theorem wipeE_in {ρ : Env} : ∀ {vs : List Nat} {j : Nat} {s : Slot}, j ∈ vs → (wipeE ρ vs)[j]? = some s → isOwn s = false
  | [], _, _, h, _ => by simp at h
  | v :: vs, j, s, h, e => by
    have e' : ((wipeE ρ vs).set v .un)[j]? = some s := e
    by_cases hj : v = j
    · subst hj
      by_cases hl : v < (wipeE ρ vs).length
      · rw [List.getElem?_set_self hl] at e'; cases e'; rfl
      · rw [List.getElem?_eq_none (by rw [List.length_set]; omega)] at e'; cases e'
    · rw [List.getElem?_set_ne hj] at e'
      exact wipeE_in ((List.mem_cons.mp h).resolve_left fun z => hj z.symm) e'
theorem wipeE_out {ρ : Env} : ∀ {vs : List Nat} {j : Nat}, j ∉ vs → (wipeE ρ vs)[j]? = ρ[j]?
  | [], _, _ => rfl
  | v :: vs, j, h => by
    simp only [List.mem_cons, not_or] at h
    show ((wipeE ρ vs).set v .un)[j]? = _
    rw [List.getElem?_set_ne fun z => h.1 z.symm, wipeE_out h.2]
theorem backE_len (ρ ρ0 : Env) : ∀ vs : List Nat, (backE ρ ρ0 vs).length = ρ.length
  | [] => rfl
  | v :: vs => by show ((backE ρ ρ0 vs).set v _).length = _; rw [List.length_set, backE_len ρ ρ0 vs]
theorem backE_out {ρ ρ0 : Env} : ∀ {vs : List Nat} {j : Nat}, j ∉ vs → (backE ρ ρ0 vs)[j]? = ρ[j]?
  | [], _, _ => rfl
  | v :: vs, j, h => by
    simp only [List.mem_cons, not_or] at h
    show ((backE ρ ρ0 vs).set v _)[j]? = _
    rw [List.getElem?_set_ne fun z => h.1 z.symm, backE_out h.2]
theorem backE_in {ρ ρ0 : Env} (hl : ρ.length = ρ0.length) : ∀ {vs : List Nat} {j : Nat}, j ∈ vs → (backE ρ ρ0 vs)[j]? = ρ0[j]?
  | [], _, h => by simp at h
  | v :: vs, j, h => by
    show ((backE ρ ρ0 vs).set v (ρ0.getD v .un))[j]? = _
    by_cases hj : v = j
    · subst hj
      by_cases hv : v < ρ0.length
      · rw [List.getElem?_set_self (by rw [backE_len, hl]; exact hv), List.getD_eq_getElem?_getD, List.getElem?_eq_getElem hv]; rfl
      · rw [List.getElem?_eq_none (by rw [List.length_set, backE_len]; omega), List.getElem?_eq_none (by omega)]
    · rw [List.getElem?_set_ne hj]
      exact backE_in hl ((List.mem_cons.mp h).resolve_left fun z => hj z.symm)
theorem outE_len (ρ : Env) (it : E) : (outE ρ it).length = ρ.length := by
  cases it <;> first | rfl | exact List.length_set
/-- behind a block -/
theorem block_end {vs : List Nat} {it : E} {ρ5 : Env} (R1 : REnv T F1 H1 σ ρ1) (c : SteC T F1 H1 (wipe σ vs) (wipeE (outE ρ1 it) vs) F2 H2 (wipe σ vs) (wipeE ρ5 vs)) : Ste T F1 H1 σ ρ1 F2 H2 (lendE (backE ρ5 (outE ρ1 it) vs) ρ1 it) := by
  have l5 : ρ5.length = ρ1.length := by
    have a := c.en.len
    rw [wipeE_len, wipe_length] at a
    rw [← a, R1.len]
  have core : ∀ j : Nat, ((backE ρ5 (outE ρ1 it) vs)[j]? = (outE ρ1 it)[j]? ∧ ∀ s, (wipeE (outE ρ1 it) vs)[j]? = some s → isOwn s = false) ∨ ((backE ρ5 (outE ρ1 it) vs)[j]? = (wipeE ρ5 vs)[j]? ∧ (wipe σ vs)[j]? = σ[j]?) := fun j => by
    by_cases hj : j ∈ vs
    · exact .inl ⟨backE_in (by rw [outE_len]; exact l5) hj, fun s e => wipeE_in hj e⟩
    · exact .inr ⟨by rw [backE_out hj, wipeE_out hj], wipe_out hj⟩
  refine Ste.merge R1 c (fun j b h => ownAt_out (ownAt_wipe h).1) ?_ fun j => ?_
  · cases it <;> first
      | (show (backE ρ5 _ vs).length = _; rw [backE_len]; exact l5)
      | (show ((backE ρ5 _ vs).set _ _).length = _; rw [List.length_set, backE_len]; exact l5)
  · cases it with
    | iOwn i =>
      by_cases hj : i = j
      · subst hj
        refine .inl ⟨?_, fun s e => ?_⟩
        · show ((backE ρ5 _ vs).set i (ρ1.getD i .un))[i]? = _
          by_cases hv : i < ρ1.length
          · rw [List.getElem?_set_self (by rw [backE_len, l5]; exact hv), List.getD_eq_getElem?_getD, List.getElem?_eq_getElem hv]; rfl
          · rw [List.getElem?_eq_none (by rw [List.length_set, backE_len]; omega), List.getElem?_eq_none (by omega)]
        · by_cases hj : i ∈ vs
          · exact wipeE_in hj e
          · rw [wipeE_out hj] at e
            have e' : (ρ1.set i .un)[i]? = some s := e
            by_cases hv : i < ρ1.length
            · rw [List.getElem?_set_self hv] at e'; cases e'; rfl
            · rw [List.getElem?_eq_none (by rw [List.length_set]; omega)] at e'; cases e'
      · have e1 : (lendE (backE ρ5 (outE ρ1 (.iOwn i)) vs) ρ1 (.iOwn i))[j]? = (backE ρ5 (outE ρ1 (.iOwn i)) vs)[j]? := List.getElem?_set_ne hj
        have e2 : (outE ρ1 (.iOwn i))[j]? = ρ1[j]? := List.getElem?_set_ne hj
        rw [e1]
        have q := core j
        rw [e2] at q
        exact q
    | _ => exact core j
end
end PV
end

section
set_option Elab.async false
set_option linter.all false
set_option autoImplicit false
set_option maxRecDepth 100000
set_option maxHeartbeats 4000000
/-! PV8: comprehensions. -/
namespace PV
open PySem PySem.Spec L2

abbrev wF : WX := fun _ _ _ _ => False
theorem isT_ok {c : Res RV} {yes no : Env → Res (List Val)} {ws : List Val} {ρ4 : Env} (h : isT c yes no = .ok ws ρ4) : ∃ b ρ3, c = .ok (.val (.bl b)) ρ3 ∧ (if b = true then yes ρ3 else no ρ3) = .ok ws ρ4 := by
  unfold isT at h
  cases c with
  | exc e ρ => cases h
  | stuck => cases h
  | ok r ρ3 =>
    simp only [Res.bnd] at h
    cases r with
    | fresh _ => cases h
    | val x =>
      cases x with
      | bl b => refine ⟨b, ρ3, rfl, ?_⟩; cases b <;> exact h
      | _ => cases h
theorem bnd_ok {α β : Type} {m : Res α} {f : α → Env → Res β} {b : β} {ρ2 : Env} (h : m.bnd f = .ok b ρ2) : ∃ a ρ1, m = .ok a ρ1 ∧ f a ρ1 = .ok b ρ2 := by
  cases m with
  | ok a ρ1 => exact ⟨a, ρ1, rfl, h⟩
  | exc e ρ => cases h
  | stuck => cases h
theorem turns_cons {vs : List Nat} {t : Tg} {body : Env → Res (List Val)} {x : Val} {xs us : List Val} {ρ ρ5 : Env} (h : turns vs t body (x :: xs) ρ = .ok us ρ5) :
    ∃ ρ3 ws ρ4 us', setT t x (wipeE ρ vs) = some ρ3 ∧ body ρ3 = .ok ws ρ4 ∧ turns vs t body xs ρ4 = .ok us' ρ5 ∧ us = ws ++ us' := by
  unfold turns at h
  cases e : setT t x (wipeE ρ vs) with
  | none => rw [e] at h; cases h
  | some ρ3 =>
    rw [e] at h
    obtain ⟨ws, ρ4, e2, h⟩ := bnd_ok h
    obtain ⟨us', ρ6, e3, h⟩ := bnd_ok h
    cases h
    exact ⟨ρ3, ws, ρ4, us', rfl, e2, e3, rfl⟩
theorem okBnd {α β : Type} {T : Sta} {W : WX} {F H : Hp} {σ : L2.St} {ρ ρ1 : Env} {a : α} {f : α → Env → Res β} {P : β → Env → Hp → Hp → Prop} (h : Post T W F H σ ρ ((Res.ok a ρ1).bnd f) P) : Post T W F H σ ρ (f a ρ1) P := h
theorem noX_ok {α : Type} {T : Sta} {W : WX} {F H : Hp} {σ : L2.St} {ρ : Env} {m : Res α} {β : Type} {f : α → Env → Res β} {P : β → Env → Hp → Hp → Prop} (h : Post T W F H σ ρ ((noX m).bnd f) P) : ∃ a ρ', m = .ok a ρ' ∧ Post T W F H σ ρ (f a ρ') P := by
  cases m with
  | ok a ρ' => exact ⟨a, ρ', rfl, h⟩
  | exc e ρ' => exact h.elim
  | stuck => exact h.elim

section
variable {T : Sta} {W : WX} {σ : L2.St} {H : Hp} {Q : VK} {Φ : Fns} {G : Nat → Option Val} {fl : Nat → List Str}
/-- the list that a comprehension makes, at a state within -/
structure Coll (T : Sta) (F1 H1 : Hp) (D : Addr) (F2 H2 : Hp) (acc : List V) (zs : List Val) : Prop where
  at_ : H2 D = some (.lst acc)
  no : F2 D = none
  rp : Reps T F2 zs acc
theorem Coll.step {F1 H1 F2 H2 F3 H3 : Hp} {D : Addr} {acc : List V} {zs : List Val} {O : Addr → Prop} (c : Coll T F1 H1 D F2 H2 acc zs) (t : Tr F2 H2 O F3 H3) (n : ¬ O D) : Coll T F1 H1 D F3 H3 acc zs :=
  ⟨t.hh D _ c.at_ n, t.nw D (by rw [c.at_]; simp) n c.no, Reps.mono t.ff _ _ c.rp⟩
theorem coll_no {F1 H1 : Hp} {σ0 σ2 : L2.St} {ρ0 ρ2 : Env} {D : Addr} (R0 : REnv T F1 H1 σ0 ρ0) (hD : H1 D = none) (s : ∀ j a, OwnAt σ2 ρ2 j a → OwnAt σ0 ρ0 j a) : ¬ Own σ2 ρ2 D := fun ⟨j, h⟩ => (R0.own_at (s j D h)).1 hD

theorem wipeE_set {ρ : Env} {i : Nat} {o : Slot} : ∀ {vs : List Nat}, i ∈ vs → wipeE (ρ.set i o) vs = wipeE ρ vs
  | [], h => by simp at h
  | v :: vs, h => by
    show (wipeE (ρ.set i o) vs).set v .un = (wipeE ρ vs).set v .un
    by_cases hi : i ∈ vs
    · rw [wipeE_set hi]
    · have e : i = v := by
        rcases List.mem_cons.mp h with e | h
        · exact e
        · exact absurd h hi
      subst e
      have : ∀ {ws : List Nat}, i ∉ ws → wipeE (ρ.set i o) ws = (wipeE ρ ws).set i o := by
        intro ws
        induction ws with
        | nil => intro _; rfl
        | cons w ws ih =>
          intro hn
          simp only [List.mem_cons, not_or] at hn
          show (wipeE (ρ.set i o) ws).set w .un = ((wipeE ρ ws).set w .un).set i o
          rw [ih hn.2, set_comm_o _ hn.1]
      rw [this hi, List.set_set]
theorem wipeE_wipe (ρ : Env) {vs : List Nat} : ∀ {ws : List Nat}, (∀ i ∈ ws, i ∈ vs) → wipeE (wipeE ρ ws) vs = wipeE ρ vs
  | [], _ => rfl
  | w :: ws, h => by
    show wipeE ((wipeE ρ ws).set w .un) vs = _
    rw [wipeE_set (h w (by simp)), wipeE_wipe ρ fun i hi => h i (by simp [hi])]
theorem REnv.wiped2 {F H : Hp} {σ : L2.St} {ρ : Env} {vs vs1 : List Nat} (h : REnv T F H σ (wipeE (wipeE ρ vs1) vs)) (hv : ∀ i ∈ vs1, i ∈ vs) : REnv T F H σ (wipeE ρ vs) := by
  rw [wipeE_wipe ρ hv] at h; exact h
theorem ownAt_wiped2 {σ : L2.St} {ρ : Env} {vs vs1 : List Nat} {j : Nat} {a : Addr} (hv : ∀ i ∈ vs1, i ∈ vs) (h : OwnAt σ (wipeE ρ vs) j a) : OwnAt σ (wipeE (wipeE ρ vs1) vs) j a := by
  rw [wipeE_wipe ρ hv]; exact h
theorem lent_out {F H : Hp} {ρ : Env} {it : E} (R : REnv T F H σ ρ) {a : Addr} (h : Own σ (outE ρ it) a) : ¬ Lent σ ρ it a := fun ⟨i, e, hi⟩ => by
  subst e
  obtain ⟨j, hj⟩ := h
  have ej := R.dj i j a hi (ownAt_out hj)
  subst ej
  obtain ⟨s, es, eo, _⟩ := hj
  obtain ⟨s0, e0, _⟩ := hi
  rw [show outE ρ (.iOwn i) = ρ.set i .un from rfl, List.getElem?_set_self (List.getElem?_eq_some_iff.mp e0).1] at es
  cases es
  cases eo
theorem Tr.poke {F H F1 H1 : Hp} {O : Addr → Prop} (t : Tr F H O F1 H1) {D : Addr} {o : HO} (hO : O D) (h1 : H1 D ≠ none) (f1 : F1 D = none) : Tr F H O F1 (upd H1 D o) := by
  refine ⟨t.ff, fun a u e => ?_, fun a u e n => ?_, t.nw, fun a e => ?_⟩
  · have : a ≠ D := fun z => by rw [z, f1] at e; cases e
    rw [upd_ne this]; exact t.fh a u e
  · have : a ≠ D := fun z => n (by rw [z]; exact hO)
    rw [upd_ne this]; exact t.hh a u e n
  · by_cases ha : a = D
    · rw [ha, upd_same]; simp
    · rw [upd_ne ha]; exact t.th a e
theorem tE_comp1 {vs : List Nat} {t : Tg} {it cd elt : E} (hv : ∀ i ∈ tgs t, i ∈ vs) (h : tE T W (PV.ev Φ G fl (.comp1 vs t it cd elt)) σ H Q) :
    tLc (tI T W it (PV.ev Φ G fl it)) (gT T.K t) (tT T wF (PV.ev Φ G fl cd)) (tE T wF (PV.ev Φ G fl elt)) vs σ H Q := by
  obtain ⟨F, ρ, R, P⟩ := h
  refine ⟨F, ρ, R, (Post.seq (m := PV.ev Φ G fl it ρ) P).eqn.mono fun r ρ1 F1 H1 s1 ⟨e1, k1⟩ => ?_⟩
  have q1 := k1 F1 H1 s1
  clear k1
  simp only [PV.ev, e1] at P
  replace P := okBnd P
  cases r with
  | val x => exact q1.elim
  | fresh items =>
    clear q1
    refine ⟨items, rfl, fun J WJ0 D hD => ?_⟩
    have WJ := WJ0 (Own σ (outE ρ1 it)) fun a ha => lent_out s1.en ha
    obtain ⟨ys, ρ5, et, P⟩ := noX_ok P
    split at P
    · rename_i hz
      have R0 : REnv T F1 H1 (wipe σ vs) (wipeE (outE ρ1 it) vs) := (s1.en.out it).wiped vs
      generalize hb : (fun ρ2 => isT (PV.ev Φ G fl cd ρ2) (fun ρ3 => (PV.ev Φ G fl elt ρ3).bnd fun r ρ4 => .ok [r.frz] ρ4) (fun ρ3 => .ok [] ρ3)) = body at et
      refine ⟨fun i m H2 => ∃ F2 ρ2 acc zs us, i + m = items.length ∧ SteC T F1 H1 (wipe σ vs) (wipeE (outE ρ1 it) vs) F2 H2 (wipe σ vs) (wipeE ρ2 vs) ∧ Coll T F1 H1 D F2 H2 acc zs ∧ turns vs t body (items.drop i) ρ2 = .ok us ρ5 ∧ ys = zs ++ us,
        ⟨items.length, F1, outE ρ1 it, [], [], ys, by omega, (SteC.refl R0).more (Tr.newH s1.en.le hD), ⟨upd_same, s1.en.le.none_of hD, rfl⟩, by rw [List.drop_zero]; exact et, rfl⟩, fun i m H2 hW => ?_⟩
      obtain ⟨F2, ρ2, acc, zs, us, em, c, cl, et2, ey⟩ := hW
      have tw : Tr F1 H1 (Own σ (outE ρ1 it)) F2 H2 := c.tr.wide fun b ⟨j, hj⟩ => ⟨j, (ownAt_wipe hj).1⟩
      by_cases hi : i < items.length
      · have ed : items.drop i = items[i] :: items.drop (i + 1) := List.drop_eq_getElem_cons hi
        rw [ed] at et2
        obtain ⟨ρ3, ws, ρ4, us', es, eb, et3, eu⟩ := turns_cons et2
        have hx : items[i]? = some items[i] := List.getElem?_eq_getElem hi
        refine .inr ⟨WJ.go F2 H2 i _ tw hx, _, fun H' hN => ⟨m - 1, by omega, hN⟩, fun v H3 hy => ?_⟩
        obtain ⟨F3, t3, rv⟩ := WJ.yld F2 H2 i _ v H3 tw hx hy
        have c3 := c.more t3
        have cl3 := cl.step t3 fun z => z
        refine gT_ok t c3.en rv es fun σ2 R2 sub hw _ => ⟨by rw [hw vs hv, wipe_wipe σ fun _ h => h], ?_⟩
        have hw2 : wipe σ2 vs = wipe σ vs := by rw [hw vs hv, wipe_wipe σ fun _ h => h]
        rw [← hb] at eb
        obtain ⟨b, ρ3', ec, eb⟩ := isT_ok eb
        -- back at the block's slots
        have wrap : ∀ {F' H' : Hp} {ρ' : Env}, Ste T F3 H3 σ2 ρ3 F' H' ρ' → SteC T F1 H1 (wipe σ vs) (wipeE (outE ρ1 it) vs) F' H' (wipe σ vs) (wipeE ρ' vs) := fun {F' H' ρ'} s => by
          have ss : ∀ j a, OwnAt σ2 ρ' j a → OwnAt (wipe σ vs) (wipeE (outE ρ1 it) vs) j a := fun j a hj => c3.sb j a (sub j a (s.sb j a hj))
          refine ⟨c3.tr.trans s.tr fun a ⟨j, hj⟩ => .inl ⟨j, c3.sb j a (sub j a hj)⟩, ?_, fun j a hj => ss j a ?_⟩
          · rw [← hw2]; exact s.en.wiped vs
          · rw [← hw2] at hj; exact (ownAt_wipe hj).1
        have noD : ∀ {ρ' : Env}, (∀ j a, OwnAt σ2 ρ' j a → OwnAt σ2 ρ3 j a) → ¬ Own σ2 ρ' D := fun {ρ'} s => coll_no R0 hD fun j a hj => c3.sb j a (sub j a (s j a hj))
        refine ⟨F3, ρ3, R2, ?_⟩
        rw [ec]
        intro F4 H4 s4
        have cl4 := cl3.step s4.tr (noD fun _ _ h => h)
        refine ⟨b, rfl, ?_⟩
        cases b with
        | false =>
          cases eb
          exact ⟨F4, ρ4, acc, zs, us', by omega, wrap s4, cl4, et3, by rw [ey, eu]; rfl⟩
        | true =>
          obtain ⟨r, ρ6, ee, eb⟩ := bnd_ok eb
          cases eb
          refine ⟨F4, ρ3', s4.en, ?_⟩
          rw [ee]
          intro F5 H5 s5 w hw'
          obtain ⟨F6, s6, le, rp⟩ := RepR.frz s4.en s5 hw'
          have cl6 := cl4.step s6.tr (noD fun j a hj => s4.sb j a hj)
          have lacc : acc.length = zs.length := cl6.rp.len
          have lys : ys.length = zs.length + (1 + us'.length) := by rw [ey, eu, List.length_append, List.length_append]; rfl
          refine ⟨acc, cl6.at_, ?_, ?_⟩
          · rw [lacc]
            have : ys.length ≤ 100000 := hz
            have : zs.length + 1 ≤ sizeLine := sz100 (by omega)
            omega
          · have c6 := wrap (s4.trans s6)
            refine ⟨F6, ρ4, acc ++ [w], zs ++ [r.frz], us', by omega, c6.poke R0 hD (by rw [cl6.at_]; simp) cl6.no, ⟨upd_same, cl6.no, cl6.rp.append (Reps.one rp)⟩, et3, by rw [ey, eu, List.append_assoc]⟩
      · refine .inl ⟨WJ.stop F2 H2 i tw (by omega), ?_⟩
        rw [List.drop_of_length_le (by omega)] at et2
        cases et2
        rw [List.append_nil] at ey
        subst ey
        exact P F2 H2 (s1.trans (block_end s1.en c)) (.ref D) ⟨D, acc, rfl, s1.nonOf hD, cl.no, cl.at_, cl.rp⟩
    · exact P.elim
theorem tE_comp2 {vs vs1 : List Nat} {t t1 : Tg} {it cd it1 cd1 elt : E} (hv : ∀ i ∈ tgs t, i ∈ vs) (hv1 : ∀ i ∈ tgs t1, i ∈ vs1) (hvv : ∀ i ∈ vs1, i ∈ vs) (h : tE T W (PV.ev Φ G fl (.comp2 vs vs1 t it cd t1 it1 cd1 elt)) σ H Q) :
    tLc2 (tI T W it (PV.ev Φ G fl it)) (gT T.K t) (tT T wF (PV.ev Φ G fl cd)) (tI T wF it1 (PV.ev Φ G fl it1)) (gT T.K t1) (tT T wF (PV.ev Φ G fl cd1)) (tE T wF (PV.ev Φ G fl elt)) vs vs1 σ H Q := by
  obtain ⟨F, ρ, R, P⟩ := h
  refine ⟨F, ρ, R, (Post.seq (m := PV.ev Φ G fl it ρ) P).eqn.mono fun r ρ1 F1 H1 s1 ⟨e1, k1⟩ => ?_⟩
  have q1 := k1 F1 H1 s1
  clear k1
  simp only [PV.ev, e1] at P
  replace P := okBnd P
  cases r with
  | val x => exact q1.elim
  | fresh items =>
    clear q1
    refine ⟨items, rfl, fun J WJ0 D hD => ?_⟩
    have WJ := WJ0 (Own σ (outE ρ1 it)) fun a ha => lent_out s1.en ha
    obtain ⟨ys, ρ5, et, P⟩ := noX_ok P
    split at P
    · rename_i hz
      have R0 : REnv T F1 H1 (wipe σ vs) (wipeE (outE ρ1 it) vs) := (s1.en.out it).wiped vs
      generalize hb1 : (fun ρ5 => isT (PV.ev Φ G fl cd1 ρ5) (fun ρ6 => (PV.ev Φ G fl elt ρ6).bnd fun r ρ7 => .ok [r.frz] ρ7) (fun ρ6 => .ok [] ρ6)) = body1 at et
      generalize hb : (fun ρ2 => isT (PV.ev Φ G fl cd ρ2) (fun ρ3 => (PV.ev Φ G fl it1 ρ3).bnd fun r1 ρ4 => (match r1 with
          | .fresh items1 => (turns vs1 t1 body1 items1 (outE ρ4 it1))
          | _ => .stuck)) (fun ρ3 => .ok [] ρ3)) = body at et
      refine ⟨fun i m H2 => ∃ F2 ρ2 acc zs us, i + m = items.length ∧ SteC T F1 H1 (wipe σ vs) (wipeE (outE ρ1 it) vs) F2 H2 (wipe σ vs) (wipeE ρ2 vs) ∧ Coll T F1 H1 D F2 H2 acc zs ∧ turns vs t body (items.drop i) ρ2 = .ok us ρ5 ∧ ys = zs ++ us,
        ⟨items.length, F1, outE ρ1 it, [], [], ys, by omega, (SteC.refl R0).more (Tr.newH s1.en.le hD), ⟨upd_same, s1.en.le.none_of hD, rfl⟩, by rw [List.drop_zero]; exact et, rfl⟩, fun i m H2 hW => ?_⟩
      obtain ⟨F2, ρ2, acc, zs, us, em, c, cl, et2, ey⟩ := hW
      have tw : Tr F1 H1 (Own σ (outE ρ1 it)) F2 H2 := c.tr.wide fun b ⟨j, hj⟩ => ⟨j, (ownAt_wipe hj).1⟩
      by_cases hi : i < items.length
      · have ed : items.drop i = items[i] :: items.drop (i + 1) := List.drop_eq_getElem_cons hi
        rw [ed] at et2
        obtain ⟨ρ3, ws, ρ4, us', es, eb, et3, eu⟩ := turns_cons et2
        have hx : items[i]? = some items[i] := List.getElem?_eq_getElem hi
        refine .inr ⟨WJ.go F2 H2 i _ tw hx, _, fun H' hN => ⟨m - 1, by omega, hN⟩, fun v H3 hy => ?_⟩
        obtain ⟨F3, t3, rv⟩ := WJ.yld F2 H2 i _ v H3 tw hx hy
        have c3 := c.more t3
        have cl3 := cl.step t3 fun z => z
        refine gT_ok t c3.en rv es fun σ2 R2 sub hw _ => ⟨by rw [hw vs hv, wipe_wipe σ fun _ h => h], ?_⟩
        have hw2 : wipe σ2 vs = wipe σ vs := by rw [hw vs hv, wipe_wipe σ fun _ h => h]
        rw [← hb] at eb
        obtain ⟨b, ρ3', ec, eb⟩ := isT_ok eb
        -- the block's state at the first target's slots
        have cA : SteC T F1 H1 (wipe σ vs) (wipeE (outE ρ1 it) vs) F3 H3 σ2 ρ3 := ⟨c3.tr, R2, fun j a hj => c3.sb j a (sub j a hj)⟩
        have noD : ∀ {σ' : L2.St} {F' H' : Hp} {ρ' : Env}, SteC T F1 H1 (wipe σ vs) (wipeE (outE ρ1 it) vs) F' H' σ' ρ' → ¬ Own σ' ρ' D := fun {σ' F' H' ρ'} s => coll_no R0 hD s.sb
        have wrap : ∀ {σ' : L2.St} {F' H' : Hp} {ρ' : Env}, SteC T F1 H1 (wipe σ vs) (wipeE (outE ρ1 it) vs) F' H' σ' ρ' → wipe σ' vs = wipe σ vs → SteC T F1 H1 (wipe σ vs) (wipeE (outE ρ1 it) vs) F' H' (wipe σ vs) (wipeE ρ' vs) := fun {σ' F' H' ρ'} s e => by
          refine ⟨s.tr, ?_, fun j a hj => s.sb j a ?_⟩
          · rw [← e]; exact s.en.wiped vs
          · rw [← e] at hj; exact (ownAt_wipe hj).1
        refine ⟨F3, ρ3, R2, ?_⟩
        rw [ec]
        intro F4 H4 s4
        have cB := cA.trans s4.toC
        have cl4 := cl3.step s4.tr (noD cA)
        refine ⟨b, rfl, ?_⟩
        cases b with
        | false =>
          cases eb
          exact ⟨F4, ρ4, acc, zs, us', by omega, wrap cB hw2, cl4, et3, by rw [ey, eu]; rfl⟩
        | true =>
          obtain ⟨r1, ρ6, ei1, eb⟩ := bnd_ok eb
          cases r1 with
          | val _ => cases eb
          | fresh items1 =>
            refine ⟨F4, ρ3', s4.en, ?_⟩
            rw [ei1]
            intro F5 H5 s5
            refine ⟨items1, rfl, fun J1 WJ1 => ?_⟩
            have cC := cB.trans s5.toC
            have cl5 := cl4.step s5.tr (noD cB)
            have WK := WJ1 (fun a => Own σ2 (outE ρ6 it1) a ∨ a = D) fun a ha => by
              rcases ha with ha | ha
              · exact lent_out s5.en ha
              · rintro ⟨k, ek, hk⟩
                rw [ha] at hk
                exact noD cC ⟨k, hk⟩
            have cD : SteC T F1 H1 (wipe σ vs) (wipeE (outE ρ1 it) vs) F5 H5 (wipe σ2 vs1) (wipeE (outE ρ6 it1) vs1) := ⟨cC.tr, (s5.en.out it1).wiped vs1, fun j a hj => cC.sb j a (ownAt_out (ownAt_wipe hj).1)⟩
            dsimp only at eb
            refine ⟨fun j k H6 => ∃ F6 ρ7 acc' zs' us1, j + k = items1.length ∧ SteC T F1 H1 (wipe σ vs) (wipeE (outE ρ1 it) vs) F6 H6 (wipe σ2 vs1) (wipeE ρ7 vs1) ∧ Tr F5 H5 (fun a => Own σ2 (outE ρ6 it1) a ∨ a = D) F6 H6 ∧ Coll T F1 H1 D F6 H6 acc' zs' ∧
              (∀ j a, OwnAt (wipe σ2 vs1) (wipeE ρ7 vs1) j a → OwnAt σ2 (outE ρ6 it1) j a) ∧ turns vs1 t1 body1 (items1.drop j) ρ7 = .ok us1 ρ4 ∧ zs ++ ws = zs' ++ us1,
              ⟨items1.length, F5, outE ρ6 it1, acc, zs, ws, by omega, cD, Tr.refl s5.en.le, cl5, fun j a h => (ownAt_wipe h).1, by rw [List.drop_zero]; exact eb, rfl⟩, fun j k H6 hW1 => ?_⟩
            obtain ⟨F6, ρ7, acc', zs', us1, em1, c6, t6, cl6, ow6, et6, ey1⟩ := hW1
            by_cases hj : j < items1.length
            · have ed1 : items1.drop j = items1[j] :: items1.drop (j + 1) := List.drop_eq_getElem_cons hj
              rw [ed1] at et6
              obtain ⟨ρ8, ws1, ρ9, us1', es1, eb1, et7, eu1⟩ := turns_cons et6
              have hx1 : items1[j]? = some items1[j] := List.getElem?_eq_getElem hj
              refine .inr ⟨WK.go F6 H6 j _ t6 hx1, _, fun H' hN => ⟨k - 1, by omega, hN⟩, fun v1 H7 hy1 => ?_⟩
              obtain ⟨F7, t7, rv1⟩ := WK.yld F6 H6 j _ v1 H7 t6 hx1 hy1
              have c7 := c6.more t7
              have cl7 := cl6.step t7 fun z => z
              have t67 := t6.trans t7 fun _ h => h.elim
              refine gT_ok t1 c7.en rv1 es1 fun σ3 R3 sub1 hw1 _ => ⟨by rw [hw1 vs1 hv1, wipe_wipe σ2 fun _ h => h], ?_⟩
              have hw3 : wipe σ3 vs1 = wipe σ2 vs1 := by rw [hw1 vs1 hv1, wipe_wipe σ2 fun _ h => h]
              rw [← hb1] at eb1
              obtain ⟨b1, ρ8', ec1, eb1⟩ := isT_ok eb1
              have cE : SteC T F1 H1 (wipe σ vs) (wipeE (outE ρ1 it) vs) F7 H7 σ3 ρ8 := ⟨c7.tr, R3, fun j a hj => c7.sb j a (sub1 j a hj)⟩
              have sO : ∀ j a, OwnAt σ3 ρ8 j a → OwnAt σ2 (outE ρ6 it1) j a := fun j a h => ow6 j a (sub1 j a h)
              have wrap1 : ∀ {F' H' : Hp} {ρ' : Env}, SteC T F1 H1 (wipe σ vs) (wipeE (outE ρ1 it) vs) F' H' σ3 ρ' → SteC T F1 H1 (wipe σ vs) (wipeE (outE ρ1 it) vs) F' H' (wipe σ2 vs1) (wipeE ρ' vs1) := fun {F' H' ρ'} s => by
                refine ⟨s.tr, ?_, fun j a hj => s.sb j a ?_⟩
                · rw [← hw3]; exact s.en.wiped vs1
                · rw [← hw3] at hj; exact (ownAt_wipe hj).1
              have ow : ∀ {ρ' : Env}, (∀ j a, OwnAt σ3 ρ' j a → OwnAt σ3 ρ8 j a) → ∀ j a, OwnAt (wipe σ2 vs1) (wipeE ρ' vs1) j a → OwnAt σ2 (outE ρ6 it1) j a := fun {ρ'} s j a h => by
                rw [← hw3] at h
                exact sO j a (s j a (ownAt_wipe h).1)
              refine ⟨F7, ρ8, R3, ?_⟩
              rw [ec1]
              intro F8 H8 s8
              have cF := cE.trans s8.toC
              have cl8 := cl7.step s8.tr (noD cE)
              have t8 := t67.trans s8.tr fun a ⟨j, h⟩ => .inl (.inl ⟨j, sO j a h⟩)
              refine ⟨b1, rfl, ?_⟩
              cases b1 with
              | false =>
                cases eb1
                exact ⟨F8, ρ9, acc', zs', us1', by omega, wrap1 cF, t8, cl8, ow fun j a h => s8.sb j a h, et7, by rw [ey1, eu1]; rfl⟩
              | true =>
                obtain ⟨r, ρa, ee, eb1⟩ := bnd_ok eb1
                cases eb1
                refine ⟨F8, ρ8', s8.en, ?_⟩
                rw [ee]
                intro F9 H9 s9 w hw'
                obtain ⟨Fa, sa, le, rp⟩ := RepR.frz s8.en s9 hw'
                have cla := cl8.step sa.tr (noD cF)
                have cG := cF.trans sa.toC
                have ta := t8.trans sa.tr fun a ⟨j, h⟩ => .inl (.inl ⟨j, sO j a (s8.sb j a h)⟩)
                have lacc : acc'.length = zs'.length := cla.rp.len
                have lys : ys.length = zs'.length + (1 + us1'.length) + us'.length := by
                  have : ys = (zs ++ ws) ++ us' := by rw [ey, eu, List.append_assoc]
                  rw [this, ey1, eu1, List.length_append, List.length_append, List.length_append]; rfl
                refine ⟨acc', cla.at_, ?_, ?_⟩
                · rw [lacc]
                  have : ys.length ≤ 100000 := hz
                  have : zs'.length + 1 ≤ sizeLine := sz100 (by omega)
                  omega
                · exact ⟨Fa, ρ9, acc' ++ [w], zs' ++ [r.frz], us1', by omega, (wrap1 cG).poke R0 hD (by rw [cla.at_]; simp) cla.no, ta.poke (.inr rfl) (by rw [cla.at_]; simp) cla.no, ⟨upd_same, cla.no, cla.rp.append (Reps.one rp)⟩,
                    ow fun j a h => s8.sb j a (sa.sb j a h), et7, by rw [ey1, eu1, List.append_assoc]⟩
            · refine .inl ⟨WK.stop F6 H6 j t6 (by omega), ?_⟩
              rw [List.drop_of_length_le (by omega)] at et6
              cases et6
              rw [List.append_nil] at ey1
              subst ey1
              have cW : SteC T F1 H1 (wipe σ vs) (wipeE (outE ρ1 it) vs) F6 H6 (wipe σ vs) (wipeE ρ4 vs) := by
                have e0 : wipe (wipe σ2 vs1) vs = wipe σ vs := by rw [wipe_wipe σ2 hvv, hw2]
                have q := wrap c6 e0
                refine ⟨q.tr, ?_, fun j a hj => ?_⟩
                · have := c6.en.wiped vs
                  rw [e0] at this
                  exact REnv.wiped2 this hvv
                · exact q.sb j a (ownAt_wiped2 hvv hj)
              exact ⟨F6, ρ4, acc', zs ++ ws, us', by omega, cW, cl6, et3, by rw [ey, eu, List.append_assoc]⟩
      · refine .inl ⟨WJ.stop F2 H2 i tw (by omega), ?_⟩
        rw [List.drop_of_length_le (by omega)] at et2
        cases et2
        rw [List.append_nil] at ey
        subst ey
        exact P F2 H2 (s1.trans (block_end s1.en c)) (.ref D) ⟨D, acc, rfl, s1.nonOf hD, cl.no, cl.at_, cl.rp⟩
    · exact P.elim
end
end PV
end

section
set_option Elab.async false
set_option linter.all false
set_option autoImplicit false
set_option maxRecDepth 100000
set_option maxHeartbeats 4000000
/-! PV9: statements. -/
namespace PV
open PySem PySem.Spec L2

def Fin (T : Sta) (H F' H' : Hp) (σ' : L2.St) (D : Ends) : Fl → Prop
  | .nx => D.nx σ' H'
  | .bk => D.bk σ' H'
  | .ct => D.ct σ' H'
  | .ret r => ∀ v, RepR T H F' H' r v → D.rt v H'
def PostS (T : Sta) (z : Bool) (W : WX) (F H : Hp) (σ : L2.St) (ρ : Env) (m : Res Fl) (D : Ends) : Prop := match m with
  | .ok f ρ' => ∀ F' H' σ', SteS T z F H σ ρ F' H' σ' ρ' → Fin T H F' H' σ' D f
  | .exc e ρ' => ∀ F' H' σ' cls d, SteS T z F H σ ρ F' H' σ' ρ' → ExcAt T F' H' e cls d → W cls d σ' H'
  | .stuck => False
def tS (T : Sta) (z : Bool) (W : WX) (m : Env → Res Fl) : TS := fun D σ H => ∃ F ρ, REnv T F H σ ρ ∧ PostS T z W F H σ ρ (m ρ) D
theorem _root_.L2.PS.imp {X : Cx} {e : Stmt} {t t' : TS} (h : PS X e t) (k : ∀ D σ H, t' D σ H → t D σ H) : PS X e t' := ⟨fun pins s σ H Q I q => h.run pins s σ H Q I (k Q σ H q)⟩
theorem _root_.L2.PSs.imp {X : Cx} {e : List Stmt} {t t' : TS} (h : PSs X e t) (k : ∀ D σ H, t' D σ H → t D σ H) : PSs X e t' := ⟨fun pins s σ H Q I q => h.run pins s σ H Q I (k Q σ H q)⟩

section
variable {z : Bool} {T : Sta} {W : WX} {F H F1 H1 F2 H2 : Hp} {σ σ1 : L2.St} {ρ ρ1 : Env} {D : Ends}
theorem RepR.backS (s : SteS T z F H σ ρ F1 H1 σ1 ρ1) {F2 H2 : Hp} {r : RV} {v : V} (h : RepR T H1 F2 H2 r v) : RepR T H F2 H2 r v := by
  cases r with
  | val x => exact h
  | fresh xs =>
    obtain ⟨p, vs, e, h0, h2, h1, k⟩ := h
    exact ⟨p, vs, e, none_back s.tr h0, h2, h1, k⟩
theorem Fin.back (s : SteS T z F H σ ρ F1 H1 σ1 ρ1) {F2 H2 : Hp} {σ2 : L2.St} {f : Fl} (h : Fin T H F2 H2 σ2 D f) : Fin T H1 F2 H2 σ2 D f := by
  cases f with
  | ret r => exact fun v hv => h v (hv.backS s)
  | _ => exact h
theorem PostS.shift {m : Res Fl} (s : SteS T z F H σ ρ F1 H1 σ1 ρ1) (h : PostS T z W F H σ ρ m D) : PostS T z W F1 H1 σ1 ρ1 m D := by
  cases m with
  | ok f ρ' => exact fun F' H' σ' s' => (h F' H' σ' (s.trans s')).back s
  | exc e ρ' => exact fun F' H' σ' cls d s' x => h F' H' σ' cls d (s.trans s') x
  | stuck => exact h
/-- an expression ahead -/
theorem PostS.seqE {α : Type} {m : Res α} {f : α → Env → Res Fl} (h : PostS T z W F H σ ρ (m.bnd f) D) : Post T W F H σ ρ m fun r ρ1 _ _ => ∀ F2 H2, Ste T F H σ ρ F2 H2 ρ1 → PostS T z W F2 H2 σ ρ1 (f r ρ1) D := by
  cases m with
  | ok a ρ' => exact fun _ _ _ F2 H2 s => PostS.shift s.toS h
  | exc e ρ' => exact fun F' H' cls d s x => h F' H' σ cls d s.toS x
  | stuck => exact h
theorem postS_ok {f : Fl} {F' H' : Hp} {σ' : L2.St} {ρ' : Env} (h : PostS T z W F H σ ρ (.ok f ρ') D) (s : SteS T z F H σ ρ F' H' σ' ρ') : Fin T H F' H' σ' D f := h F' H' σ' s
theorem fx_set {i : Nat} {o : Option V} {σ : L2.St} (hz : z = false ∨ i ≠ 0) : z = true → (σ.set i o)[(0:Nat)]? = σ[(0:Nat)]? := fun h => by
  rcases hz with q | q
  · rw [q] at h; cases h
  · exact List.getElem?_set_ne q
theorem SteS.set (R : REnv T F H σ ρ) {i : Nat} {v : V} {x : Val} (r : Rep T F x v) (hz : z = false ∨ i ≠ 0) : SteS T z F H σ ρ F H (σ.set i (some v)) (ρ.set i (.v x)) :=
  ⟨Tr.refl R.le, R.set r, fun _ ⟨j, h⟩ => .inl ⟨j, (ownAt_set h).1⟩, fx_set hz⟩
/-- a new list in a slot -/
theorem SteS.setOwn {p : Addr} {xs : List Val} {vs : List V} {i : Nat} (R : REnv T F H σ ρ) (s : SteS T z F H σ ρ F1 H1 σ1 ρ1) (h0 : H p = none) (h1 : H1 p = some (.lst vs)) (f1 : F1 p = none) (r : Reps T F1 xs vs) (no : ¬ Own σ1 ρ1 p) (hz : z = false ∨ i ≠ 0) :
    SteS T z F H σ ρ F1 H1 (σ1.set i (some (.ref p))) (ρ1.set i (.ol xs)) := by
  have sub : ∀ j a, OwnAt (σ1.set i (some (.ref p))) (ρ1.set i (.ol xs)) j a → (OwnAt σ1 ρ1 j a ∧ j ≠ i) ∨ (a = p ∧ j = i) := fun j a ⟨s, es, eo, ez⟩ => by
    by_cases hj : i = j
    · subst hj
      by_cases hi : i < σ1.length
      · rw [List.getElem?_set_self hi] at ez
        cases ez
        exact .inr ⟨rfl, rfl⟩
      · rw [List.getElem?_eq_none (by rw [List.length_set]; omega)] at ez
        cases ez
    · rw [List.getElem?_set_ne hj] at es ez
      exact .inl ⟨⟨s, es, eo, ez⟩, fun z => hj z.symm⟩
  refine ⟨s.tr, ⟨s.en.le, by rw [List.length_set, List.length_set]; exact s.en.len, fun j sl es => ?_, fun j k a hj hk => ?_⟩, fun a ⟨j, h⟩ => ?_, fun h => (fx_set hz h).trans (s.fx h)⟩
  · by_cases hj : i = j
    · subst hj
      by_cases hi : i < ρ1.length
      · rw [List.getElem?_set_self hi] at es
        cases es
        rw [List.getElem?_set_self (by rw [s.en.len]; exact hi)]
        exact ⟨p, vs, rfl, h1, f1, r⟩
      · rw [List.getElem?_eq_none (by rw [List.length_set]; omega)] at es
        cases es
    · rw [List.getElem?_set_ne hj] at es ⊢
      exact s.en.sl j sl es
  · rcases sub j a hj with ⟨q1, _⟩ | ⟨q1, q2⟩
    · rcases sub k a hk with ⟨q3, _⟩ | ⟨q3, q4⟩
      · exact s.en.dj j k a q1 q3
      · subst q3; exact absurd ⟨j, q1⟩ no
    · rcases sub k a hk with ⟨q3, _⟩ | ⟨q3, q4⟩
      · subst q1; exact absurd ⟨k, q3⟩ no
      · rw [q2, q4]
  · rcases sub j a h with ⟨q1, _⟩ | ⟨q1, _⟩
    · exact s.sb a ⟨j, q1⟩
    · rw [q1]; exact .inr h0
/-- a slot's own list changed -/
theorem Ste.upd {i : Nat} {a : Addr} {ys ys' : List Val} {us us' : List V} (R : REnv T F H σ ρ) (e : ρ[i]? = some (.ol ys)) (ea : σ[i]? = some (some (.ref a))) (h1 : H a = some (.lst us)) (f1 : F a = none) (r : Reps T F ys' us') :
    Ste T F H σ ρ F (L2.upd H a (.lst us')) (ρ.set i (.ol ys')) := by
  have oa : OwnAt σ ρ i a := ⟨_, e, rfl, ea⟩
  refine R.lent (O := fun b => b = a) oa (fun b h => h) ⟨Le.refl F, fun b u q => ?_, fun b u q n => ?_, fun b q n f => f, fun b q => ?_⟩ ⟨a, us', rfl, upd_same, f1, r⟩
  · have : b ≠ a := fun z => by rw [z, f1] at q; cases q
    rw [upd_ne this]; exact R.le b u q
  · rw [upd_ne n]; exact q
  · by_cases hb : b = a
    · rw [hb, upd_same]; simp
    · rw [upd_ne hb]; exact q
theorem at_ref {j : Nat} {b : Addr} (h : σ[j]?.join = some (.ref b)) : σ[j]? = some (some (.ref b)) := by
  cases z : σ[j]? with
  | none => rw [z] at h; cases h
  | some w => rw [z] at h; exact congrArg some h
end

section
variable {z : Bool} {T : Sta} {W : WX} {σ : L2.St} {H : Hp} {Φ : Fns} {G : Nat → Option Val} {fl : Nat → List Str} {D : Ends}
abbrev xS (Φ : Fns) (G : Nat → Option Val) (fl : Nat → List Str) (s : S) : Env → Res Fl := PV.ex Φ G fl s
theorem tS_nop (h : tS T z W (xS Φ G fl .nop) D σ H) : tNext D σ H := by
  obtain ⟨F, ρ, R, P⟩ := h
  exact P F H σ (SteS.refl R)
theorem tS_brk (h : tS T z W (xS Φ G fl .brk) D σ H) : tBreak D σ H := by
  obtain ⟨F, ρ, R, P⟩ := h
  exact P F H σ (SteS.refl R)
theorem tS_cont (h : tS T z W (xS Φ G fl .cont) D σ H) : tCont D σ H := by
  obtain ⟨F, ρ, R, P⟩ := h
  exact P F H σ (SteS.refl R)
theorem tS_never {t : TS} (h : tS T z W (xS Φ G fl .never) D σ H) : t D σ H := by
  obtain ⟨F, ρ, R, P⟩ := h
  exact P.elim
theorem tS_seq {a b : S} (h : tS T z W (xS Φ G fl (.seq a b)) D σ H) : tSeq (tS T z W (xS Φ G fl a)) (tS T z W (xS Φ G fl b)) D σ H := by
  obtain ⟨F, ρ, R, P⟩ := h
  refine ⟨F, ρ, R, ?_⟩
  have P' : PostS T z W F H σ ρ ((PV.ex Φ G fl a ρ).bnd fun f ρ1 => (match f with
    | .nx => PV.ex Φ G fl b ρ1
    | f => .ok f ρ1)) D := P
  show PostS T z W F H σ ρ (PV.ex Φ G fl a ρ) _
  cases e : PV.ex Φ G fl a ρ with
  | stuck => rw [e] at P'; exact P'
  | exc x ρ1 => rw [e] at P'; exact P'
  | ok f ρ1 =>
    rw [e] at P'
    cases f with
    | nx => exact fun F' H' σ' s => ⟨F', ρ1, s.en, PostS.shift s P'⟩
    | ret r => exact P'
    | bk => exact P'
    | ct => exact P'
theorem tS_expr {e : E} (h : tS T z W (xS Φ G fl (.expr e)) D σ H) : tDrop (tE T W (PV.ev Φ G fl e)) D σ H := by
  obtain ⟨F, ρ, R, P⟩ := h
  refine ⟨F, ρ, R, (PostS.seqE (m := PV.ev Φ G fl e ρ) P).mono fun r ρ1 F1 H1 s k v hv => ?_⟩
  exact k F1 H1 s F1 H1 σ (SteS.refl s.en)
theorem fx_tgs {t : Tg} {σ σ' : L2.St} {z : Bool} (hz : z = false ∨ 0 ∉ tgs t) (h : ∀ j, j ∉ tgs t → σ'[j]? = σ[j]?) : z = true → σ'[(0:Nat)]? = σ[(0:Nat)]? := fun q => by
  rcases hz with hz | hz
  · rw [hz] at q; cases q
  · exact h 0 hz
theorem tS_asg {t : Tg} {e : E} (hz : z = false ∨ 0 ∉ tgs t) (h : tS T z W (xS Φ G fl (.asg t e)) D σ H) : tAsg (tE T W (PV.ev Φ G fl e)) (gT T.K t) D σ H := by
  obtain ⟨F, ρ, R, P⟩ := h
  refine ⟨F, ρ, R, (PostS.seqE (m := PV.ev Φ G fl e ρ) P).mono fun r ρ1 F1 H1 s k v hv => ?_⟩
  obtain ⟨F2, s2, le, rp⟩ := RepR.frz R s hv
  have q := k F2 H1 s2
  cases es : setT t r.frz ρ1 with
  | none => rw [es] at q; exact q.elim
  | some ρ2 =>
    rw [es] at q
    exact gT_ok t s2.en rp es fun σ' R' sub _ hj => q F2 H1 σ' ⟨Tr.refl s2.en.le, R', fun a ⟨j, h⟩ => .inl ⟨j, sub j a h⟩, fx_tgs hz hj⟩
theorem tS_own {i : Nat} {e : E} (hz : z = false ∨ i ≠ 0) (h : tS T z W (xS Φ G fl (.own i e)) D σ H) : tAsg (tE T W (PV.ev Φ G fl e)) (gName i) D σ H := by
  obtain ⟨F, ρ, R, P⟩ := h
  refine ⟨F, ρ, R, (PostS.seqE (m := PV.ev Φ G fl e ρ) P).eqn.mono fun r ρ1 F1 H1 s ⟨e1, k⟩ v hv => ?_⟩
  cases r with
  | val x => exact (k F1 H1 s).elim
  | fresh xs =>
    simp only [xS, PV.ex, e1, Res.bnd] at P
    obtain ⟨p, vs, rfl, h0, f1, h1, r⟩ := hv
    exact P F1 H1 _ (SteS.setOwn R s.toS h0 h1 f1 r (fun ⟨j, hj⟩ => (R.own_at (s.sb j p hj)).1 h0) hz)
theorem tS_ret {e : E} (h : tS T z W (xS Φ G fl (.ret e)) D σ H) : tRet (tE T W (PV.ev Φ G fl e)) D σ H := by
  obtain ⟨F, ρ, R, P⟩ := h
  refine ⟨F, ρ, R, (PostS.seqE (m := PV.ev Φ G fl e ρ) P).mono fun r ρ1 F1 H1 s k v hv => ?_⟩
  obtain ⟨F2, s2, le, rp⟩ := RepR.frz R s hv
  exact k F2 H1 s2 F2 H1 σ (SteS.refl s2.en) v rp
theorem tS_retO {e : E} (h : tS T z W (xS Φ G fl (.retO e)) D σ H) : tRet (tE T W (PV.ev Φ G fl e)) D σ H := by
  obtain ⟨F, ρ, R, P⟩ := h
  refine ⟨F, ρ, R, (PostS.seqE (m := PV.ev Φ G fl e ρ) P).eqn.mono fun r ρ1 F1 H1 s ⟨e1, k⟩ v hv => ?_⟩
  simp only [xS, PV.ex, e1, Res.bnd] at P
  exact P F1 H1 σ s.toS v hv
theorem tS_retN (h : tS T z W (xS Φ G fl .retN) D σ H) : tRetN D σ H := by
  obtain ⟨F, ρ, R, P⟩ := h
  exact P F H σ (SteS.refl R) .non rfl
theorem tS_iff {c : E} {a b : S} (h : tS T z W (xS Φ G fl (.iff c a b)) D σ H) : tIfS (tT T W (PV.ev Φ G fl c)) (tS T z W (xS Φ G fl a)) (tS T z W (xS Φ G fl b)) D σ H := by
  obtain ⟨F, ρ, R, P⟩ := h
  refine ⟨F, ρ, R, (PostS.seqE (m := PV.ev Φ G fl c ρ) P).mono fun r ρ1 F1 H1 s k => ?_⟩
  have q := k F1 H1 s
  cases r with
  | fresh _ => exact q.elim
  | val x =>
    cases x with
    | bl b =>
      refine ⟨b, rfl, ?_⟩
      cases b with
      | true => exact ⟨F1, ρ1, s.en, q⟩
      | false => exact ⟨F1, ρ1, s.en, q⟩
    | _ => exact q.elim
theorem tS_app {i : Nat} {e : E} (h : tS T z W (xS Φ G fl (.app i e)) D σ H) : tDrop (tBM T.K "list" rAppend (tVar i) (tCons (tE T W (PV.ev Φ G fl e)) tNil)) D σ H := by
  obtain ⟨F, ρ, R, P⟩ := h
  simp only [xS, PV.ex] at P
  cases e0 : ρ[i]? with
  | none => rw [e0] at P; exact P.elim
  | some s0 =>
    rw [e0] at P
    cases s0 with
    | ol ys0 =>
      obtain ⟨a, vs0, ea0, h0, _⟩ := R.sl i _ e0
      have ea := at_ref ea0
      refine ⟨.ref a, ea, .inl ⟨rfl, vs0, SqL.of h0⟩, F, ρ, R, (PostS.seqE (m := PV.ev Φ G fl e ρ) P).mono fun r ρ1 F1 H1 s k v hv => ?_⟩
      obtain ⟨F2, s2, le, rp⟩ := RepR.frz R s hv
      have q := k F2 H1 s2
      cases e1 : ρ1[i]? with
      | none => rw [e1] at q; exact q.elim
      | some s1 =>
        rw [e1] at q
        cases s1 with
        | ol ys =>
          dsimp only at q
          split at q
          · rename_i hz
            obtain ⟨b, us, eb, g1, g2, rs⟩ := s2.en.sl i _ e1
            rw [ea] at eb
            cases eb
            refine ⟨a, us, v, rfl, rfl, g1, ?_, ?_⟩
            · rw [rs.len]
              have : ys.length < 100000 := hz
              have : ys.length + 1 ≤ sizeLine := sz100 (by omega)
              omega
            · exact q F2 _ σ (Ste.upd s2.en e1 ea g1 g2 (rs.append (Reps.one rp))).toS
          · exact q.elim
        | un => exact q.elim
        | v _ => exact q.elim
        | oo _ _ _ => exact q.elim
    | un => exact P.elim
    | v _ => exact P.elim
    | oo _ _ _ => exact P.elim
theorem tS_ext {i : Nat} {e : E} (h : tS T z W (xS Φ G fl (.ext i e)) D σ H) : tDrop (tBM T.K "list" rExtend (tVar i) (tCons (tE T W (PV.ev Φ G fl e)) tNil)) D σ H := by
  obtain ⟨F, ρ, R, P⟩ := h
  simp only [xS, PV.ex] at P
  cases e0 : ρ[i]? with
  | none => rw [e0] at P; exact P.elim
  | some s0 =>
    rw [e0] at P
    cases s0 with
    | ol ys0 =>
      obtain ⟨a, vs0, ea0, h0, _⟩ := R.sl i _ e0
      have ea := at_ref ea0
      refine ⟨.ref a, ea, .inl ⟨rfl, vs0, SqL.of h0⟩, F, ρ, R, (PostS.seqE (m := PV.ev Φ G fl e ρ) P).mono fun r ρ1 F1 H1 s k v hv => ?_⟩
      obtain ⟨F2, s2, le, rp⟩ := RepR.frz R s hv
      have q := k F2 H1 s2
      cases e1 : ρ1[i]? with
      | none => rw [e1] at q; exact q.elim
      | some s1 =>
        rw [e1] at q
        cases s1 with
        | ol ys =>
          cases hx : r.frz with
          | lst zs =>
            rw [hx] at q rp
            dsimp only at q
            split at q
            · rename_i hz
              obtain ⟨b, us, eb, g1, g2, rs⟩ := s2.en.sl i _ e1
              rw [ea] at eb
              cases eb
              obtain ⟨c, ws, ev, gc, rw'⟩ := rp
              refine ⟨a, c, us, ws, rfl, by rw [ev], g1, s2.en.le _ _ gc, ?_, ?_⟩
              · rw [rs.len, rw'.len]
                exact lim hz
              · exact q F2 _ σ (Ste.upd s2.en e1 ea g1 g2 (rs.append rw')).toS
            · exact q.elim
          | _ => rw [hx] at q; exact q.elim
        | un => exact q.elim
        | v _ => exact q.elim
        | oo _ _ _ => exact q.elim
    | un => exact P.elim
    | v _ => exact P.elim
    | oo _ _ _ => exact P.elim
theorem tS_setI {i : Nat} {k e : E} (h : tS T z W (xS Φ G fl (.setI i k e)) D σ H) : tAsg (tE T W (PV.ev Φ G fl e)) (gSub (tVar i) (tE T W (PV.ev Φ G fl k)) rSetL) D σ H := by
  obtain ⟨F, ρ, R, P⟩ := h
  refine ⟨F, ρ, R, (PostS.seqE (m := PV.ev Φ G fl e ρ) P).mono fun r ρ1 F1 H1 s kk v hv => ?_⟩
  obtain ⟨F2, s2, le, rp⟩ := RepR.frz R s hv
  have q := kk F2 H1 s2
  cases e0 : ρ1[i]? with
  | none => rw [e0] at q; exact q.elim
  | some s0 =>
    rw [e0] at q
    cases s0 with
    | ol ys0 =>
      obtain ⟨a, vs0, ea0, h0, _⟩ := s2.en.sl i _ e0
      have ea := at_ref ea0
      refine ⟨.ref a, ea, F2, ρ1, s2.en, (PostS.seqE (m := PV.ev Φ G fl k ρ1) q).mono fun r' ρ3 F3 H3 s3 k3 u hu => ?_⟩
      have q := k3 F3 H3 s3
      cases r' with
      | fresh _ => exact q.elim
      | val x =>
        cases x with
        | int n =>
          cases e1 : ρ3[i]? with
          | none => rw [e1] at q; exact q.elim
          | some s1 =>
            rw [e1] at q
            cases s1 with
            | ol ys =>
              dsimp only at q
              split at q
              · rename_i hz
                obtain ⟨b, us, eb, g1, g2, rs⟩ := s3.en.sl i _ e1
                rw [ea] at eb
                cases eb
                refine ⟨a, us, n, n.toNat, rfl, hu, g1, ?_, ?_⟩
                · unfold ixN
                  rw [rs.len, if_pos hz.1, if_pos (by omega)]
                · exact q F3 _ σ (Ste.upd s3.en e1 ea g1 g2 (rs.set _ (rp.mono s3.tr.ff))).toS
              · exact q.elim
            | un => exact q.elim
            | v _ => exact q.elim
            | oo _ _ _ => exact q.elim
        | _ => exact q.elim
    | un => exact q.elim
    | v _ => exact q.elim
    | oo _ _ _ => exact q.elim
/-! ### loops -/
theorem tS_loop {t : Tg} {it : E} {b : S} (hz : z = false ∨ 0 ∉ tgs t) (ho : ∀ ρ, outE ρ it = ρ) (hl : ∀ i, it ≠ .iOwn i) (h : tS T z W (xS Φ G fl (.loop t it b)) D σ H) : tFor (tI T W it (PV.ev Φ G fl it)) (gT T.K t) (tS T z W (xS Φ G fl b)) D σ H := by
  obtain ⟨F, ρ, R, P⟩ := h
  refine ⟨F, ρ, R, (PostS.seqE (m := PV.ev Φ G fl it ρ) P).mono fun r ρ1 F1 H1 s1 k => ?_⟩
  have q := k F1 H1 s1
  cases r with
  | val _ => exact q.elim
  | fresh items =>
    refine ⟨items, rfl, fun J WJ0 => ?_⟩
    -- what is not to be changed: all but one's own and what is new
    have WJ := WJ0 (fun a => Own σ ρ1 a ∨ H1 a = none) fun a _ ⟨i, e, _⟩ => hl i e
    have q0 : PostS T z W F1 H1 σ ρ1 (loopE t (PV.ex Φ G fl b) items ρ1) D := q
    refine ⟨fun i m σ2 H2 => ∃ F2 ρ2, i + m = items.length ∧ SteS T z F1 H1 σ ρ1 F2 H2 σ2 ρ2 ∧ PostS T z W F2 H2 σ2 ρ2 (loopE t (PV.ex Φ G fl b) (items.drop i) ρ2) D, ⟨items.length, F1, ρ1, by omega, SteS.refl s1.en, by rw [List.drop_zero]; exact q0⟩, fun i m σ2 H2 hW => ?_⟩
    obtain ⟨F2, ρ2, em, c, p⟩ := hW
    have tw : Tr F1 H1 (fun a => Own σ ρ1 a ∨ H1 a = none) F2 H2 := c.tr.wide fun _ h => .inl h
    by_cases hi : i < items.length
    · have ed : items.drop i = items[i] :: items.drop (i + 1) := List.drop_eq_getElem_cons hi
      have hx : items[i]? = some items[i] := List.getElem?_eq_getElem hi
      rw [ed] at p
      refine .inr ⟨WJ.go F2 H2 i _ tw hx, _, fun σ' H' hN => ⟨m - 1, by omega, hN⟩, fun v H3 hy => ?_⟩
      obtain ⟨F3, t3, rv⟩ := WJ.yld F2 H2 i _ v H3 tw hx hy
      have c3 := c.more t3
      have p3 : PostS T z W F3 H3 σ2 ρ2 _ D := PostS.shift ((SteS.refl c.en).more t3) p
      unfold loopE at p3
      cases es : setT t items[i] ρ2 with
      | none => rw [es] at p3; exact p3.elim
      | some ρ3 =>
        rw [es] at p3
        refine gT_ok t c3.en rv es fun σ3 R3 sub _ hj => ?_
        have s3 : SteS T z F3 H3 σ2 ρ2 F3 H3 σ3 ρ3 := ⟨Tr.refl c3.en.le, R3, fun a ⟨j, h⟩ => .inl ⟨j, sub j a h⟩, fx_tgs hz hj⟩
        have p4 := PostS.shift s3 p3
        refine ⟨F3, ρ3, R3, ?_⟩
        show PostS T z W F3 H3 σ3 ρ3 (PV.ex Φ G fl b ρ3) _
        dsimp only at p4
        cases eb : PV.ex Φ G fl b ρ3 with
        | stuck => rw [eb] at p4; exact p4
        | exc x ρ4 => rw [eb] at p4; exact p4
        | ok f ρ4 =>
          rw [eb] at p4
          intro F5 H5 σ5 s5
          cases f with
          | nx => exact ⟨F5, ρ4, by omega, (c3.trans s3).trans s5, PostS.shift s5 p4⟩
          | ct => exact ⟨F5, ρ4, by omega, (c3.trans s3).trans s5, PostS.shift s5 p4⟩
          | bk => exact p4 F5 H5 σ5 s5
          | ret r => exact p4 F5 H5 σ5 s5
    · refine .inl ⟨WJ.stop F2 H2 i tw (by omega), ?_⟩
      rw [List.drop_of_length_le (by omega)] at p
      exact p F2 H2 σ2 (SteS.refl c.en)
theorem tS_whl {c : E} {b : S} (h : tS T z W (xS Φ G fl (.whl c b)) D σ H) : tWhile (tT T W (PV.ev Φ G fl c)) (tS T z W (xS Φ G fl b)) D σ H := by
  obtain ⟨F, ρ, R, P⟩ := h
  have P0 : PostS T z W F H σ ρ (whileE (PV.ev Φ G fl c) (PV.ex Φ G fl b) whileLim ρ) D := P
  refine ⟨fun m σ2 H2 => ∃ F2 ρ2, REnv T F2 H2 σ2 ρ2 ∧ PostS T z W F2 H2 σ2 ρ2 (whileE (PV.ev Φ G fl c) (PV.ex Φ G fl b) m ρ2) D, ⟨whileLim, F, ρ, R, P0⟩, fun m σ2 H2 hW => ?_⟩
  obtain ⟨F2, ρ2, R2, p⟩ := hW
  cases m with
  | zero => exact p.elim
  | succ n =>
    unfold whileE at p
    refine ⟨F2, ρ2, R2, (PostS.seqE (m := PV.ev Φ G fl c ρ2) p).mono fun r ρ3 F3 H3 s3 k => ?_⟩
    have q := k F3 H3 s3
    cases r with
    | fresh _ => exact q.elim
    | val x =>
      cases x with
      | bl d =>
        refine ⟨d, rfl, ?_⟩
        cases d with
        | false => exact q F3 H3 σ2 (SteS.refl s3.en)
        | true =>
          refine ⟨fun σ' H' => ∃ F4 ρ4, REnv T F4 H' σ' ρ4 ∧ PostS T z W F4 H' σ' ρ4 (whileE (PV.ev Φ G fl c) (PV.ex Φ G fl b) n ρ4) D, fun σ' H' hN => ⟨n, by omega, hN⟩, F3, ρ3, s3.en, ?_⟩
          show PostS T z W F3 H3 σ2 ρ3 (PV.ex Φ G fl b ρ3) _
          have q' : PostS T z W F3 H3 σ2 ρ3 ((PV.ex Φ G fl b ρ3).bnd fun f ρ2 => (match f with
            | .nx => whileE (PV.ev Φ G fl c) (PV.ex Φ G fl b) n ρ2
            | .ct => whileE (PV.ev Φ G fl c) (PV.ex Φ G fl b) n ρ2
            | .bk => .ok .nx ρ2
            | .ret r => .ok (.ret r) ρ2)) D := q
          cases eb : PV.ex Φ G fl b ρ3 with
          | stuck => rw [eb] at q'; exact q'
          | exc x ρ4 => rw [eb] at q'; exact q'
          | ok f ρ4 =>
            rw [eb] at q'
            intro F5 H5 σ5 s5
            cases f with
            | nx => exact ⟨F5, ρ4, s5.en, PostS.shift s5 q'⟩
            | ct => exact ⟨F5, ρ4, s5.en, PostS.shift s5 q'⟩
            | bk => exact q' F5 H5 σ5 s5
            | ret r => exact q' F5 H5 σ5 s5
      | _ => exact q.elim
/-! ### two at once, attributes -/
/-- a result for a slot: a new list, or a fixed value -/
def Held (T : Sta) (own : Bool) (H F' H' : Hp) (r : RV) (v : V) : Prop := if own = true then ∃ p vs xs, r = .fresh xs ∧ v = .ref p ∧ H p = none ∧ F' p = none ∧ H' p = some (.lst vs) ∧ Reps T F' xs vs else Rep T F' r.frz v
theorem held_of {F F1 H1 : Hp} {ρ ρ1 : Env} {own : Bool} {r : RV} {v : V} {sl : Slot} (R : REnv T F H σ ρ) (s1 : Ste T F H σ ρ F1 H1 ρ1) (hv : RepR T H F1 H1 r v) (hs : slotOf own r = some sl) : ∃ F2, Ste T F H σ ρ F2 H1 ρ1 ∧ Held T own H F2 H1 r v := by
  cases own with
  | false =>
    obtain ⟨F2, s2, le, rp⟩ := RepR.frz R s1 hv
    exact ⟨F2, s2, rp⟩
  | true =>
    cases r with
    | val x => cases hs
    | fresh xs =>
      obtain ⟨p, vs, ev, h0, f1, h1, r⟩ := hv
      exact ⟨F1, s1, p, vs, xs, rfl, ev, h0, f1, h1, r⟩
theorem Held.step {F1 H1 F2 H2 : Hp} {ρ1 ρ2 : Env} {own : Bool} {r : RV} {v : V} (h : Held T own H F1 H1 r v) (s : Ste T F1 H1 σ ρ1 F2 H2 ρ2) (no : ∀ p, H p = none → ¬ Own σ ρ1 p) : Held T own H F2 H2 r v := by
  cases own with
  | false => exact Rep.mono s.tr.ff _ _ h
  | true =>
    obtain ⟨p, vs, xs, e, ev, h0, f1, h1, rr⟩ := h
    have n := no p h0
    exact ⟨p, vs, xs, e, ev, h0, s.tr.nw p (by rw [h1]; simp) n f1, s.tr.hh p _ h1 n, Reps.mono s.tr.ff _ _ rr⟩
theorem tS_par {i j : Nat} {oi oj : Bool} {e e' : E} (hi : z = false ∨ i ≠ 0) (hj : z = false ∨ j ≠ 0) (h : tS T z W (xS Φ G fl (.par i oi e j oj e')) D σ H) : tPar i j (tCons (tE T W (PV.ev Φ G fl e)) (tCons (tE T W (PV.ev Φ G fl e')) tNil)) D σ H := by
  obtain ⟨F, ρ, R, P⟩ := h
  refine ⟨F, ρ, R, (PostS.seqE (m := PV.ev Φ G fl e ρ) P).eqn.mono fun r ρ1 F1 H1 s1 ⟨e1, k1⟩ v hv => ?_⟩
  simp only [xS, PV.ex, e1, Res.bnd] at P
  have q1 := k1 F1 H1 s1
  cases es1 : slotOf oi r with
  | none => rw [es1] at q1; exact q1.elim
  | some sl1 =>
    rw [es1] at P
    obtain ⟨F1', s1', hd1⟩ := held_of R s1 hv es1
    have k1' := k1 F1' H1 s1'
    rw [es1] at k1'
    refine ⟨F1', ρ1, s1'.en, (PostS.seqE (m := PV.ev Φ G fl e' ρ1) k1').eqn.mono fun r' ρ2 F2 H2 s2 ⟨e2, k2⟩ v' hv' => ?_⟩
    simp only [e2] at P
    have q2 := k2 F2 H2 s2
    cases es2 : slotOf oj r' with
    | none => rw [es2] at q2; exact q2.elim
    | some sl2 =>
      rw [es2] at P
      obtain ⟨F2', s2', hd2⟩ := held_of s1'.en s2 hv' es2
      have no1 : ∀ p, H p = none → ¬ Own σ ρ1 p := fun p h0 ⟨k, hk⟩ => (R.own_at (s1'.sb k p hk)).1 h0
      have hd1' := hd1.step s2' no1
      have st := s1'.trans s2'
      refine ⟨v, v', rfl, ?_⟩
      have P' : PostS T z W F H σ ρ (.ok .nx ((ρ2.set i sl1).set j sl2)) D := P
      refine P' F2' H2 _ ?_
      cases oi with
      | false =>
        cases es1
        have sA : SteS T z F H σ ρ F2' H2 (σ.set i (some v)) (ρ2.set i (.v r.frz)) := st.toS.trans (SteS.set st.en hd1' hi)
        cases oj with
        | false => cases es2; exact sA.trans (SteS.set sA.en hd2 hj)
        | true =>
          obtain ⟨p, vs, xs, e, rfl, h0, f1, h1, rr⟩ := hd2
          subst e
          cases es2
          exact SteS.setOwn R sA (none_back s1'.tr h0) h1 f1 rr (fun ⟨k, hk⟩ => (s1'.en.own_at (s2'.sb k p (ownAt_set hk).1)).1 h0) hj
      | true =>
        obtain ⟨p, vs, xs, e, rfl, h0, f1, h1, rr⟩ := hd1'
        subst e
        cases es1
        have sA : SteS T z F H σ ρ F2' H2 (σ.set i (some (.ref p))) (ρ2.set i (.ol xs)) := SteS.setOwn R st.toS h0 h1 f1 rr (fun ⟨k, hk⟩ => (R.own_at (st.sb k p hk)).1 h0) hi
        cases oj with
        | false => cases es2; exact sA.trans (SteS.set sA.en hd2 hj)
        | true =>
          obtain ⟨p2, vs2, xs2, e, rfl, h02, f12, h12, rr2⟩ := hd2
          subst e
          cases es2
          have np : p2 ≠ p := fun z => by
            obtain ⟨p', vs', xs', e, ev, h0', f1', h1', rr'⟩ := hd1
            cases ev
            rw [z, h1'] at h02
            cases h02
          refine SteS.setOwn R sA (none_back s1'.tr h02) h12 f12 rr2 (fun ⟨k, hk⟩ => ?_) hj
          obtain ⟨s, es, eo, ez⟩ := hk
          by_cases hki : i = k
          · subst hki
            by_cases hl : i < σ.length
            · rw [List.getElem?_set_self hl] at ez
              cases ez
              exact np rfl
            · rw [List.getElem?_eq_none (by rw [List.length_set]; omega)] at ez
              cases ez
          · rw [List.getElem?_set_ne hki] at es ez
            exact (s1'.en.own_at (s2'.sb k p2 ⟨s, es, eo, ez⟩)).1 h02
theorem putF_new {f : Str} {v : V} : ∀ {ks : List Str} {vs : List V}, vs.length = ks.length → f ∉ ks → putF f v (ks.zip vs) = (ks ++ [f]).zip (vs ++ [v])
  | [], [], _, _ => rfl
  | [], _ :: _, h, _ => by simp at h
  | _ :: _, [], h, _ => by simp at h
  | k :: ks, w :: vs, h, n => by
    simp only [List.mem_cons, not_or] at n
    have ih := putF_new (v := v) (ks := ks) (vs := vs) (by simpa using h) n.2
    show (if k = f then (k, v) :: ks.zip vs else (k, w) :: putF f v (ks.zip vs)) = (k, w) :: (ks ++ [f]).zip (vs ++ [v])
    rw [if_neg (fun z => n.1 z.symm), ih]
theorem tS_setF {c : Nat} {k : Str} {e : E} (hC : Cls T.K (T.cl c)) (hN : NoAttr T.K (T.cl c) k) (h : tS T z W (xS Φ G fl (.setF c k e)) D σ H) : sFld T.K (tVar 0) (tE T W (PV.ev Φ G fl e)) k D σ H := by
  obtain ⟨F, ρ, R, P⟩ := h
  refine ⟨F, ρ, R, (PostS.seqE (m := PV.ev Φ G fl e ρ) P).mono fun r ρ1 F1 H1 s kk v hv => ?_⟩
  obtain ⟨F2, s2, le, rp⟩ := RepR.frz R s hv
  have q := kk F2 H1 s2
  cases e1 : ρ1[(0:Nat)]? with
  | none => rw [e1] at q; exact q.elim
  | some s1 =>
    rw [e1] at q
    cases s1 with
    | oo d ks xs =>
      dsimp only at q
      split at q
      · rename_i hz
        obtain ⟨rfl, hz, hk⟩ := hz
        obtain ⟨a, dx, us, ea0, g1, g2, g3, rs⟩ := s2.en.sl 0 _ e1
        have ea := at_ref ea0
        refine ⟨.ref a, ea, a, T.cl d, dx, ks.zip us, rfl, g1, hC, hN, ?_, ?_⟩
        · rw [List.length_zip, g3]
          omega
        · rw [putF_new g3 hk]
          have so : SlotOk T F2 (L2.upd H1 a (.ins (T.cl d) dx ((ks ++ [k]).zip (us ++ [v])))) (some (.ref a)) (.oo d (ks ++ [k]) (xs ++ [r.frz])) :=
            ⟨a, dx, us ++ [v], rfl, upd_same, g2, by rw [List.length_append, List.length_append, g3]; rfl, rs.append (Reps.one rp)⟩
          refine q F2 _ σ (Ste.toS (s2.en.lent (O := fun b => b = a) ⟨_, e1, rfl, ea⟩ (fun b h => h) ⟨Le.refl F2, fun b u q => ?_, fun b u q n => ?_, fun b q n f => f, fun b q => ?_⟩ so))
          · have : b ≠ a := fun z => by rw [z, g2] at q; cases q
            rw [upd_ne this]; exact s2.en.le b u q
          · rw [upd_ne n]; exact q
          · by_cases hb : b = a
            · rw [hb, upd_same]; simp
            · rw [upd_ne hb]; exact q
      · exact q.elim
    | un => exact q.elim
    | v _ => exact q.elim
    | ol _ => exact q.elim
/-! ### items and names at once -/
def gAT (K : PySem.W.Frag) : List AT → TGs
  | [] => gNil
  | .nm i :: r => gCons (gName i) (gAT K r)
  | .sub i k :: r => gCons (gSub (tVar i) (tC (.int k)) rSetL) (gAT K r)
def atn : List AT → List Nat
  | [] => []
  | .nm i :: r => i :: atn r
  | .sub _ _ :: r => atn r
theorem gAT_ok : ∀ (ts : List AT) {xs : List Val} {vs : List V} {F H : Hp} {σ : L2.St} {ρ ρ' : Env} {Q : L2.St → Hp → Prop}, REnv T F H σ ρ → Reps T F xs vs → setAT ts xs ρ = some ρ' → (z = false ∨ 0 ∉ atn ts) →
    (∀ σ' H', SteS T z F H σ ρ F H' σ' ρ' → Q σ' H') → gAT T.K ts vs σ H Q
  | [], [], vs, F, H, σ, ρ, ρ', Q, R, r, e, _, k => by cases e; exact ⟨r, k σ H (SteS.refl R)⟩
  | [], _ :: _, _, _, _, _, _, _, _, _, _, e, _, _ => by cases e
  | .nm i :: ts, [], _, _, _, _, _, _, _, _, _, e, _, _ => by cases e
  | .sub i n :: ts, [], _, _, _, _, _, _, _, _, _, e, _, _ => by cases e
  | .nm i :: ts, x :: xs, vs, F, H, σ, ρ, ρ', Q, R, ⟨v, ws, h1, h2, h3⟩, e, hz, k => by
    subst h1
    have s : SteS T z F H σ ρ F H (σ.set i (some v)) (ρ.set i (.v x)) := SteS.set R (i := i) h2 (hz.imp id fun h q => h (by rw [q]; exact List.mem_cons_self))
    exact ⟨v, ws, rfl, gAT_ok ts s.en h3 e (hz.imp id fun h q => h (List.mem_cons_of_mem _ q)) fun σ' H' s' => k σ' H' (s.trans s')⟩
  | .sub i n :: ts, x :: xs, vs, F, H, σ, ρ, ρ', Q, R, ⟨v, ws, h1, h2, h3⟩, e, hz, k => by
    subst h1
    simp only [setAT] at e
    cases e1 : ρ[i]? with
    | none => rw [e1] at e; cases e
    | some sl =>
      rw [e1] at e
      cases sl with
      | ol ys =>
        dsimp only at e
        split at e
        · rename_i hb
          obtain ⟨a, us, ea0, g1, g2, rs⟩ := R.sl i _ e1
          have ea := at_ref ea0
          have s := (Ste.upd R e1 ea g1 g2 (rs.set n.toNat h2)).toS (z := z)
          refine ⟨v, ws, rfl, .ref a, ea, a, us, n, n.toNat, rfl, rfl, g1, ?_, gAT_ok ts s.en h3 e (hz.imp id fun h => h) fun σ' H' s' => k σ' H' (s.trans s')⟩
          unfold ixN
          rw [rs.len, if_pos hb.1, if_pos (by omega)]
        · cases e
      | un => cases e
      | v _ => cases e
      | oo _ _ _ => cases e
theorem setAT_len : ∀ {ts : List AT} {xs : List Val} {ρ ρ' : Env}, setAT ts xs ρ = some ρ' → xs.length = ts.length
  | [], [], _, _, _ => rfl
  | [], _ :: _, _, _, e => by cases e
  | .nm i :: ts, [], _, _, e => by cases e
  | .sub i n :: ts, [], _, _, e => by cases e
  | .nm i :: ts, x :: xs, ρ, ρ', e => by
    have := setAT_len (ts := ts) (xs := xs) e
    simp [this]
  | .sub i n :: ts, x :: xs, ρ, ρ', e => by
    simp only [setAT] at e
    split at e
    · split at e
      · have := setAT_len (ts := ts) (xs := xs) e
        simp [this]
      · cases e
    · cases e
theorem tS_asgT {ts : List AT} {e : E} (hz : z = false ∨ 0 ∉ atn ts) (h : tS T z W (xS Φ G fl (.asgT ts e)) D σ H) : tAsg (tE T W (PV.ev Φ G fl e)) (gTup T.K ts.length (gAT T.K ts)) D σ H := by
  obtain ⟨F, ρ, R, P⟩ := h
  refine ⟨F, ρ, R, (PostS.seqE (m := PV.ev Φ G fl e ρ) P).mono fun r ρ1 F1 H1 s k v hv => ?_⟩
  have q := k F1 H1 s
  cases r with
  | fresh _ => exact q.elim
  | val x =>
    cases x with
    | tup d xs =>
      dsimp only at q
      cases es : setAT ts xs ρ1 with
      | none => rw [es] at q; exact q.elim
      | some ρ2 =>
        rw [es] at q
        obtain ⟨a, vs, ev, ⟨h1, _⟩, rs⟩ := hv
        exact ⟨a, vs, ev, s.en.le.sqt h1, by rw [rs.len]; exact setAT_len es, gAT_ok ts s.en rs es hz fun σ' H' s' => q F1 H' σ' s'⟩
    | _ => exact q.elim
end
end PV
end

section
set_option Elab.async false
set_option linter.all false
set_option autoImplicit false
set_option maxRecDepth 100000
set_option maxHeartbeats 4000000
/-! PVA: defs. -/
namespace PV
open PySem PySem.Spec L2

section
variable {T : Sta} {F H : Hp}
theorem slots_start (n : Nat) : ∀ {xs : List Val} {ws : List V}, Reps T F xs ws → ∀ (i : Nat) (s : Slot), (xs.map Slot.v ++ List.replicate n .un)[i]? = some s → SlotOk T F H ((ws.map some ++ List.replicate n none)[i]?.join) s ∧ isOwn s = false
  | [], ws, h, i, s, e => by
    rw [List.map_nil, List.nil_append] at e
    have : s = .un := by
      rw [List.getElem?_replicate] at e
      split at e
      · exact (Option.some.inj e).symm
      · cases e
    subst this
    exact ⟨trivial, rfl⟩
  | x :: xs, ws, ⟨v, us, h1, h2, h3⟩, 0, s, e => by
    subst h1
    have : Slot.v x = s := by simpa using e
    subst this
    exact ⟨⟨v, rfl, h2⟩, rfl⟩
  | x :: xs, ws, ⟨v, us, h1, h2, h3⟩, i + 1, s, e => by
    subst h1
    exact slots_start n h3 i s (by simpa using e)
theorem renv_start {D : Def} {o : Slot} {xs : List Val} {vs : List V} {N : List Str} (a : ArgOk T F H D o xs vs) (hs : okStart D o xs = true) (hN : N.length = D.ns) (hle : D.np ≤ D.ns) (hl : vs.length = D.np) :
    REnv T F H (L2.start N vs) (startE D o xs) ∧ (∀ j b, OwnAt (L2.start N vs) (startE D o xs) j b → ownO o vs b ∧ j = 0) ∧ (D.keep = true → (L2.start N vs)[(0:Nat)]? = some vs.head?) := by
  obtain ⟨le, ws, r, h2⟩ := a
  have e0 : L2.start N vs = vs.map some ++ List.replicate (D.ns - D.np) none := by unfold L2.start; rw [hN, hl]
  rw [e0]
  have core : ∀ (j : Nat) (b : Addr) (sl : Slot), (xs.map Slot.v ++ List.replicate (D.ns - D.np) .un)[j]? = some sl → isOwn sl = false := fun j b sl e => (slots_start (H := H) _ r j sl e).2
  have rl := r.len
  cases hk : D.kind with
  | plain =>
    rw [hk] at h2
    have h2 : vs = ws := h2
    subst h2
    have es : startE D o xs = xs.map Slot.v ++ List.replicate (D.ns - D.np) .un := by unfold startE; rw [hk]
    rw [es]
    refine ⟨⟨le, by simp [rl], fun i s e => (slots_start _ r i s e).1, fun i j b hi => ?_⟩, fun j b ⟨s, e, eo, _⟩ => ?_, fun h => ?_⟩
    · obtain ⟨s, e, eo, _⟩ := hi
      rw [core i b s e] at eo; cases eo
    · rw [core j b s e] at eo; cases eo
    · unfold Def.keep at h; rw [hk] at h; cases h
  | ownL =>
    rw [hk] at h2
    obtain ⟨a, e2, ho, so⟩ := h2
    subst e2
    have es : startE D o xs = o :: (xs.map Slot.v ++ List.replicate (D.ns - D.np) .un) := by unfold startE; rw [hk]; rfl
    rw [es]
    have at0 : ∀ j b, OwnAt ((V.ref a :: ws).map some ++ List.replicate (D.ns - D.np) none) (o :: (xs.map Slot.v ++ List.replicate (D.ns - D.np) .un)) j b → j = 0 ∧ b = a := fun j b ⟨s, e, eo, ez⟩ => by
      cases j with
      | zero =>
        have : some (some (V.ref a)) = some (some (V.ref b)) := ez
        cases this
        exact ⟨rfl, rfl⟩
      | succ j => rw [core j b s (by simpa using e)] at eo; cases eo
    refine ⟨⟨le, by simp [rl], fun i s e => ?_, fun i j b hi hj => by rw [(at0 i b hi).1, (at0 j b hj).1]⟩, fun j b h => ?_, fun _ => rfl⟩
    · cases i with
      | zero => cases e; exact so
      | succ i => exact (slots_start _ r i s (by simpa using e)).1
    · obtain ⟨h1, h2⟩ := at0 j b h
      subst h2
      exact ⟨⟨ho, rfl⟩, h1⟩
  | ini =>
    rw [hk] at h2
    obtain ⟨a, e2, ho, so⟩ := h2
    subst e2
    have es : startE D o xs = o :: (xs.map Slot.v ++ List.replicate (D.ns - D.np) .un) := by unfold startE; rw [hk]; rfl
    rw [es]
    have at0 : ∀ j b, OwnAt ((V.ref a :: ws).map some ++ List.replicate (D.ns - D.np) none) (o :: (xs.map Slot.v ++ List.replicate (D.ns - D.np) .un)) j b → j = 0 ∧ b = a := fun j b ⟨s, e, eo, ez⟩ => by
      cases j with
      | zero =>
        have : some (some (V.ref a)) = some (some (V.ref b)) := ez
        cases this
        exact ⟨rfl, rfl⟩
      | succ j => rw [core j b s (by simpa using e)] at eo; cases eo
    refine ⟨⟨le, by simp [rl], fun i s e => ?_, fun i j b hi hj => by rw [(at0 i b hi).1, (at0 j b hj).1]⟩, fun j b h => ?_, fun _ => rfl⟩
    · cases i with
      | zero => cases e; exact so
      | succ i => exact (slots_start _ r i s (by simpa using e)).1
    · obtain ⟨h1, h2⟩ := at0 j b h
      subst h2
      exact ⟨⟨ho, rfl⟩, h1⟩
theorem end_slot {D : Def} {F' H' : Hp} {σ' : L2.St} {ρ' : Env} {vs : List V} (R : REnv T F' H' σ' ρ') (h : D.keep = true → σ'[(0:Nat)]? = some vs.head?) : SlotOk T F' H' vs.head? (endS D ρ') := by
  unfold endS
  have go : D.keep = true → SlotOk T F' H' vs.head? (ρ'.getD 0 .un) := fun hk => by
    rw [List.getD_eq_getElem?_getD]
    cases e : ρ'[(0:Nat)]? with
    | none => trivial
    | some s =>
      have k := R.sl 0 s e
      rw [h hk] at k
      exact k
  cases hk : D.kind with
  | plain => trivial
  | ownL => exact go (by unfold Def.keep; rw [hk])
  | ini => exact go (by unfold Def.keep; rw [hk])
theorem def_ok {P : Program} {w : World} {K : PySem.W.Frag} {mg : Str → Option Value} {base : Heap} {name qual : Str} {params : Arguments} {body : List Stmt} {scope : Scope} {f : Addr} {fd : FuncData} {N ps : List Str} {k : Nat}
    (FD : FunD K name qual params body scope [] [] f fd) (S : FnScope N ps scope) (D : Def) (m : Env → Res Fl) {Φf : Slot → List Val → FR} (hrun : Φf = runOne D m) (hN : N.length = D.ns) (hp : ps.length = D.np) (hle : D.np ≤ D.ns)
    (hb : ∀ (cdv : Value) (A : Around) (outer : List PySem.Env) (s : Shared) (H : Hp) (E : XK), Room k (A.deeper (PyProof.Rows.envOfC qual scope s.heap.objs.size f cdv)) →
      PSs (cxOf (L2.CX P w) P w K mg base N qual scope f cdv A outer s H E) body (tS T D.keep (fun cls d _ H => E cls d H) m)) :
    FnOk P w K mg base (L2.CX P w) (k + 1) f fd ps (spF T D Φf) := by
  subst hrun
  have tight : Tight D (runOne D m) := fun o xs h => by
    unfold runOne at h
    split at h
    · assumption
    · exact absurd rfl h
  refine FD.ok S (fun vs H Q E h => by rw [hp]; exact spF_len tight h) (fun cdv A outer s H vs Q E hr hsp => ⟨_, hb cdv A outer s H E hr, ?_⟩)
  have hlen := spF_len tight hsp
  obtain ⟨F, o, xs, ao, hpost⟩ := hsp
  have hs : okStart D o xs = true := tight o xs fun z => by rw [z] at hpost; exact hpost
  obtain ⟨R, own, fx0⟩ := renv_start (N := N) ao hs hN hle hlen
  refine ⟨F, startE D o xs, R, ?_⟩
  unfold runOne at hpost
  rw [if_pos hs] at hpost
  have wide : ∀ {F' H' : Hp}, Tr F H (Own (L2.start N vs) (startE D o xs)) F' H' → Tr F H (ownO o vs) F' H' := fun t => t.wide fun b ⟨j, h⟩ => (own j b h).1
  cases e : m (startE D o xs) with
  | stuck => rw [e] at hpost; exact hpost
  | exc x ρ' =>
    rw [e] at hpost
    exact fun F' H' σ' cls d st xa => hpost F' H' cls d (wide st.tr) xa (end_slot st.en fun h => (st.fx h).trans (fx0 h))
  | ok fl ρ' =>
    rw [e] at hpost
    intro F' H' σ' st
    have so : SlotOk T F' H' vs.head? (endS D ρ') := end_slot st.en fun h => (st.fx h).trans (fx0 h)
    cases fl with
    | nx => exact hpost F' H' .non (wide st.tr) rfl so
    | ret r => exact fun v rv => hpost F' H' v (wide st.tr) rv so
    | bk => exact hpost.elim
    | ct => exact hpost.elim
end
end PV
end

section
set_option Elab.async false
set_option linter.all false
set_option autoImplicit false
set_option maxRecDepth 100000
set_option maxHeartbeats 4000000
/-! PVB: the rules by what is written: expressions. -/
namespace PV
open PySem PySem.Spec L2

abbrev SE (X : Cx) (T : Sta) (W : WX) (Φ : Fns) (G : Nat → Option Val) (fl : Nat → List Str) (x : Expr) (e : E) : Prop := PE X x (tE T W (PV.ev Φ G fl e))
abbrev SO (X : Cx) (T : Sta) (W : WX) (Φ : Fns) (G : Nat → Option Val) (fl : Nat → List Str) (x : Expr) (e : E) : Prop := PE X x (tO T W (opd e (PV.ev Φ G fl e)))
abbrev ST (X : Cx) (T : Sta) (W : WX) (Φ : Fns) (G : Nat → Option Val) (fl : Nat → List Str) (x : Expr) (e : E) : Prop := PT X x (tT T W (PV.ev Φ G fl e))
abbrev SW (X : Cx) (T : Sta) (W : WX) (Φ : Fns) (G : Nat → Option Val) (fl : Nat → List Str) (x : Expr) (e : E) : Prop := PW X x (tT T W (PV.ev Φ G fl e))
abbrev SA (X : Cx) (T : Sta) (W : WX) (Φ : Fns) (G : Nat → Option Val) (fl : Nat → List Str) (xs : List Expr) (e : E) : Prop := PA X xs (tA T W (PV.ev Φ G fl e))
abbrev SI (X : Cx) (T : Sta) (W : WX) (Φ : Fns) (G : Nat → Option Val) (fl : Nat → List Str) (tg x : Expr) (e : E) : Prop := PI X tg x (tI T W e (PV.ev Φ G fl e))

def W1 (T : Sta) (o : Op1) (r : V → Hp → VK → Prop) : Prop := ∀ {F H : Hp} {x : Val} {v : V} {z : RV} {Q : VK}, op1 o x = some z → RepB T F H x v → Le F H → Wants T F H z Q → r v H Q
def W2 (T : Sta) (o : Op2) (r : V → V → Hp → VK → Prop) : Prop := ∀ {F H : Hp} {x y : Val} {v u : V} {z : RV} {Q : VK}, op2 o x y = some z → RepB T F H x v → RepB T F H y u → Le F H → Wants T F H z Q → r v u H Q
def BinOk (X : Cx) (T : Sta) (op : Operator) (o : Op2) : Prop := ∃ r, OpR X (binaryOp op) r ∧ W2 T o r
def CmpOk (X : Cx) (T : Sta) (op : CmpOp) (o : Op2) : Prop := ∃ r, OpR X (compareOp op) r ∧ W2 T o r
def CallOk1 (X : Cx) (T : Sta) (f : Value) (o : Op1) : Prop := ∃ r, CallR X f r ∧ W1 T o fun v => r [v]
def CallOk2 (X : Cx) (T : Sta) (f : Value) (o : Op2) : Prop := ∃ r, CallR X f r ∧ W2 T o fun v u => r [v, u]

section
variable {X : Cx} {T : Sta} {W : WX} {Φ : Fns} {G : Nat → Option Val} {fl : Nat → List Str}
/-! ### names, constants -/
theorem sint {i : Int} {j : Nat} {p : Pos} : SE X T W Φ G fl (.Constant (.int i) j p) (.int i) := pe_int.imp fun _ _ _ h => tE_C (x := .int i) (fun _ => rfl) h
theorem sbl {i : Bool} {j : Nat} {p : Pos} : SE X T W Φ G fl (.Constant (.bool i) j p) (.bl i) := pe_bl.imp fun _ _ _ h => tE_C (x := .bl i) (fun _ => rfl) h
theorem snon {j : Nat} {p : Pos} : SE X T W Φ G fl (.Constant .none j p) .non := pe_non.imp fun _ _ _ h => tE_C (x := .non) (fun _ => rfl) h
theorem sstr {i : Str} {j : Nat} {p : Pos} : SE X T W Φ G fl (.Constant (.str i) j p) (.str i) := pe_str.imp fun _ _ _ h => tE_C (x := .str i) (fun _ => rfl) h
theorem sv {x : Expr} {i : Nat} (h : PE X x (tVar i)) : SE X T W Φ G fl x (.var i) := h.imp fun _ _ _ h => tE_var h
theorem smv {x : Expr} {i : Nat} (h : PE X x (tVar i)) : SE X T W Φ G fl x (.mv i) := h.imp fun _ _ _ h => tE_mv h
theorem sov {x : Expr} {i : Nat} (h : PE X x (tVar i)) : SO X T W Φ G fl x (.var i) := h.imp fun _ _ _ h => tO_var h
theorem so {x : Expr} {e : E} (h : SE X T W Φ G fl x e) (hm : ∀ m ρ, opd e m ρ = (m ρ).bnd fun r ρ1 => .ok (.vl r.frz) ρ1 := by intros; rfl) : SO X T W Φ G fl x e := h.imp fun _ _ _ h => tO_of (hm _) h
theorem sglob {x : Expr} {g : Nat} {v : V} {y : Val} (h : PE X x (tC v)) (hG : G g = some y) (hy : ∀ F, Rep T F y v) : SE X T W Φ G fl x (.glob g) := h.imp fun σ H Q q => by
  obtain ⟨F, ρ, R, P⟩ := q
  simp only [PV.ev, hG] at P
  exact P F H (Ste.refl R) v (hy F)
/-! ### operations -/
theorem sbin {a b : Expr} {ea eb : E} {op : Operator} {o : Op2} {p : Pos} (h : BinOk X T op o) (ha : SO X T W Φ G fl a ea) (hb : SO X T W Φ G fl b eb) : SE X T W Φ G fl (.BinOp a op b p) (.o2 o ea eb) := by
  obtain ⟨r, hr, w⟩ := h
  exact (pe_op hr ha hb).imp fun _ _ _ h => tE_o2 h w
theorem scmp {a b : Expr} {ea eb : E} {op : CmpOp} {o : Op2} {p : Pos} (h : CmpOk X T op o) (ha : SO X T W Φ G fl a ea) (hb : SO X T W Φ G fl b eb) (hm : behindInMarks op b = false := by first | exact nobehind _ (by decide) (by decide) | rfl) :
    SE X T W Φ G fl (.Compare a [op] [b] p) (.o2 o ea eb) := by
  obtain ⟨r, hr, w⟩ := h
  exact (pe_cmpR hr ha hb hm).imp fun _ _ _ h => tE_o2 h w
theorem tcmp {a b : Expr} {ea eb : E} {op : CmpOp} {o : Op2} {p : Pos} (h : CmpOk X T op o) (ha : SO X T W Φ G fl a ea) (hb : SO X T W Φ G fl b eb) (hm : behindInMarks op b = false := by first | exact nobehind _ (by decide) (by decide) | rfl) :
    ST X T W Φ G fl (.Compare a [op] [b] p) (.o2 o ea eb) := by
  obtain ⟨r, hr, w⟩ := h
  exact (pt_cmpR hr ha hb hm).imp fun _ _ _ h => tE_o2 (tT_tE h) w
theorem schain {a b c : Expr} {ea eb ec : E} {op op' : CmpOp} {o o' : Op2} {p : Pos} (h : CmpOk X T op o) (h' : CmpOk X T op' o') (ha : SO X T W Φ G fl a ea) (hb : SO X T W Φ G fl b eb) (hc : SO X T W Φ G fl c ec) (hm : lastMarks [op, op'] [b, c] = false := by with_unfolding_all rfl) :
    SE X T W Φ G fl (.Compare a [op, op'] [b, c] p) (.chain o o' ea eb ec) := by
  obtain ⟨r, hr, w⟩ := h
  obtain ⟨r', hr', w'⟩ := h'
  exact (pe_chain hr hr' ha hb hc hm).imp fun _ _ _ h => tE_chain h w w'
theorem tchain {a b c : Expr} {ea eb ec : E} {op op' : CmpOp} {o o' : Op2} {p : Pos} (h : CmpOk X T op o) (h' : CmpOk X T op' o') (ha : SO X T W Φ G fl a ea) (hb : SO X T W Φ G fl b eb) (hc : SO X T W Φ G fl c ec) (hm : lastMarks [op, op'] [b, c] = false := by with_unfolding_all rfl) :
    ST X T W Φ G fl (.Compare a [op, op'] [b, c] p) (.chain o o' ea eb ec) := by
  obtain ⟨r, hr, w⟩ := h
  obtain ⟨r', hr', w'⟩ := h'
  exact (pt_chain hr hr' ha hb hc hm).imp fun _ _ _ h => tE_chain (tT_tE h) w w'
theorem sisN {a : Expr} {ea : E} {j : Nat} {p p' : Pos} (ha : SE X T W Φ G fl a ea) : SE X T W Φ G fl (.Compare a [.Is] [.Constant .none j p'] p) (.isN false ea) :=
  (pe_cmp (pc_isN ha)).imp fun _ _ _ h => by
    have := tE_isN h
    simpa [tIsN] using this
theorem snotN {a : Expr} {ea : E} {j : Nat} {p p' : Pos} (ha : SE X T W Φ G fl a ea) : SE X T W Φ G fl (.Compare a [.IsNot] [.Constant .none j p'] p) (.isN true ea) :=
  (pe_cmp (pc_notN ha)).imp fun _ _ _ h => by
    have := tE_isN h
    simpa [tNotN] using this
theorem tisN {a : Expr} {ea : E} {j : Nat} {p p' : Pos} (ha : SE X T W Φ G fl a ea) : ST X T W Φ G fl (.Compare a [.Is] [.Constant .none j p'] p) (.isN false ea) :=
  (pt_cmp (pc_isN ha)).imp fun _ _ _ h => by
    have := tE_isN (tT_tE h)
    simpa [tIsN, tB] using this
theorem tnotN {a : Expr} {ea : E} {j : Nat} {p p' : Pos} (ha : SE X T W Φ G fl a ea) : ST X T W Φ G fl (.Compare a [.IsNot] [.Constant .none j p'] p) (.isN true ea) :=
  (pt_cmp (pc_notN ha)).imp fun _ _ _ h => by
    have := tE_isN (tT_tE h)
    simpa [tNotN, tB] using this
theorem sneg {a : Expr} {ea : E} {p : Pos} (ha : SO X T W Φ G fl a ea) : SE X T W Φ G fl (.UnaryOp .USub a p) (.o1 .neg ea) := (pe_un un_neg ha).imp fun _ _ _ h => tE_o1 h w1_neg
/-! ### truths -/
theorem sand {a b : Expr} {rest : List Expr} {ea eb : E} {p : Pos} (ha : SE X T W Φ G fl a ea) (hb : SE X T W Φ G fl (.BoolOp .And (b :: rest) p) eb) : SE X T W Φ G fl (.BoolOp .And (a :: b :: rest) p) (.and ea eb) := (pe_and ha hb).imp fun _ _ _ h => tE_and h
theorem sor {a b : Expr} {rest : List Expr} {ea eb : E} {p : Pos} (ha : SE X T W Φ G fl a ea) (hb : SE X T W Φ G fl (.BoolOp .Or (b :: rest) p) eb) : SE X T W Φ G fl (.BoolOp .Or (a :: b :: rest) p) (.or ea eb) := (pe_or ha hb).imp fun _ _ _ h => tE_or h
theorem sone {a : Expr} {op : BoolOp} {ea : E} {p : Pos} (ha : SE X T W Φ G fl a ea) : SE X T W Φ G fl (.BoolOp op [a] p) ea := pe_one ha
theorem snot {a : Expr} {ea : E} {p : Pos} (ha : SE X T W Φ G fl a ea) : SE X T W Φ G fl (.UnaryOp .Not a p) (.not ea) := (pe_not ha).imp fun _ _ _ h => tE_not h
theorem tand {a b : Expr} {rest : List Expr} {ea eb : E} {p : Pos} (ha : ST X T W Φ G fl a ea) (hb : SW X T W Φ G fl (.BoolOp .And (b :: rest) p) eb) : SW X T W Φ G fl (.BoolOp .And (a :: b :: rest) p) (.and ea eb) := (pw_and ha hb).imp fun _ _ _ h => tT_and h
theorem tand1 {a : Expr} {ea : E} {p : Pos} (ha : ST X T W Φ G fl a ea) : SW X T W Φ G fl (.BoolOp .And [a] p) ea := pw_and1 ha
theorem tor {a b : Expr} {rest : List Expr} {ea eb : E} {p : Pos} (ha : ST X T W Φ G fl a ea) (hb : SW X T W Φ G fl (.BoolOp .Or (b :: rest) p) eb) : SW X T W Φ G fl (.BoolOp .Or (a :: b :: rest) p) (.or ea eb) := (pw_or ha hb).imp fun _ _ _ h => tT_or h
theorem tor1 {a : Expr} {ea : E} {p : Pos} (ha : ST X T W Φ G fl a ea) : SW X T W Φ G fl (.BoolOp .Or [a] p) ea := pw_or1 ha
theorem tnot {a : Expr} {ea : E} {p : Pos} (ha : ST X T W Φ G fl a ea) : ST X T W Φ G fl (.UnaryOp .Not a p) (.not ea) := (pt_not ha).imp fun _ _ _ h => tT_not h
/-- any other thing as a test -/
theorem tof {a : Expr} {ea : E} (ha : SE X T W Φ G fl a ea) (ht : ∀ whole : Sem Value, isTrue a X.env whole = (do let v ← whole; standAt a.pos; holding [v] (truthy v)) := by intro _; rfl) : ST X T W Φ G fl a ea :=
  (pt_truth ha ht).imp fun σ H Q h => by
    obtain ⟨F, ρ, R, P⟩ := tT_tE h
    exact ⟨F, ρ, R, P.mono fun r _ F' H' _ k v hv => let ⟨b, e, q⟩ := k v hv; ⟨b, by rw [e]; rfl, q⟩⟩
theorem site {c a b : Expr} {ec ea eb : E} {p : Pos} (hc : ST X T W Φ G fl c ec) (ha : SE X T W Φ G fl a ea) (hb : SE X T W Φ G fl b eb) : SE X T W Φ G fl (.IfExp c a b p) (.ite ec ea eb) := (pe_ifExp hc ha hb).imp fun _ _ _ h => tE_ite h
/-! ### lists of items -/
theorem anil : SA X T W Φ G fl [] .nil := pa_nil.imp fun _ _ _ h => tA_nil h
theorem acons {x : Expr} {xs : List Expr} {e es : E} (h : SE X T W Φ G fl x e) (hs : SA X T W Φ G fl xs es) (hst : starEach (x :: xs) X.env = (false, eval x X.env) :: starEach xs X.env := by rfl) : SA X T W Φ G fl (x :: xs) (.cons e es) := (pa_cons h hs hst).imp fun _ _ _ h => tA_cons h
theorem astar {x : Expr} {xs : List Expr} {e es : E} {p : Pos} (hK : X.K = T.K) (h : SE X T W Φ G fl x e) (hs : SA X T W Φ G fl xs es) (hst : starEach (.Starred x p :: xs) X.env = (true, eval x X.env) :: starEach xs X.env := by rfl) : SA X T W Φ G fl (.Starred x p :: xs) (.star e es) :=
  (StX.pa_star h hs hst).imp fun _ _ _ h => by rw [hK]; exact tA_star h
theorem stup {xs : List Expr} {es : E} {p : Pos} {k : Nat} (h : SA X T W Φ G fl xs es) : SE X T W Φ G fl (.Tuple xs k p) (.tup es) := (pe_tupD h).imp fun _ _ _ h => tE_tup h
theorem slst {xs : List Expr} {es : E} {p : Pos} (h : SA X T W Φ G fl xs es) : SE X T W Φ G fl (.List xs p) (.lst es) := (pe_lst h).imp fun _ _ _ h => tE_lst h
/-! ### built-in calls -/
theorem tA1 {e : E} {σ : L2.St} {H : Hp} {Q : V → Hp → Prop} (h : tO T W (opd e (PV.ev Φ G fl e)) σ H Q) : tCons (tO T W (opd e (PV.ev Φ G fl e))) tNil σ H fun vs H1 => ∃ v, vs = [v] ∧ Q v H1 := by
  obtain ⟨F, ρ, R, P⟩ := h
  exact ⟨F, ρ, R, P.mono fun o _ F' H' _ k v hv => ⟨v, rfl, k v hv⟩⟩
theorem scB1 {x : Str} {a : Expr} {ea : E} {id : String} {o : Op1} {p pos : Pos} (h : CallOk1 X T (.builtin id) o) (hg : Gl X x) (hm : X.mg x = none) (hv : bootBuiltins x = some (.builtin id)) (ha : SO X T W Φ G fl a ea) (hn : x ≠ "__name__" := by decide) (hdb : (x == ("__debug__" : Str)) = false := by decide)
    (he : starEach [a] X.env = (false, eval a X.env) :: starEach [] X.env := by rfl) (hpl : (backTo pos (starEach [] X.env)).any (·.1) = false := by rfl) : SE X T W Φ G fl (.Call (.Name x p) [a] [] pos) (.o1 o ea) := by
  obtain ⟨r, hr, w⟩ := h
  refine (pe_callB hr hg hm hv (pa_cons ha pa_nil he) hn hdb he hpl).imp fun σ H Q h => ?_
  obtain ⟨F, ρ, R, P⟩ := tE_o1 h w
  exact ⟨F, ρ, R, P.mono fun _ _ _ _ _ k v hv => k v hv⟩
theorem scT1 {x : Str} {a : Expr} {ea : E} {id : String} {o : Op1} {p pos : Pos} (h : CallOk1 X T (.type id) o) (hg : Gl X x) (hm : X.mg x = none) (hv : bootBuiltins x = some (.type id)) (ha : SO X T W Φ G fl a ea) (hn : x ≠ "__name__" := by decide) (hdb : (x == ("__debug__" : Str)) = false := by decide)
    (he : starEach [a] X.env = (false, eval a X.env) :: starEach [] X.env := by rfl) (hpl : (backTo pos (starEach [] X.env)).any (·.1) = false := by rfl) : SE X T W Φ G fl (.Call (.Name x p) [a] [] pos) (.o1 o ea) := by
  obtain ⟨r, hr, w⟩ := h
  refine (pe_callTy hr hg hm hv (pa_cons ha pa_nil he) hn hdb he hpl).imp fun σ H Q h => ?_
  obtain ⟨F, ρ, R, P⟩ := tE_o1 h w
  exact ⟨F, ρ, R, P.mono fun _ _ _ _ _ k v hv => k v hv⟩
theorem scB2 {x : Str} {a b : Expr} {ea eb : E} {id : String} {o : Op2} {p pos : Pos} (h : CallOk2 X T (.builtin id) o) (hg : Gl X x) (hm : X.mg x = none) (hv : bootBuiltins x = some (.builtin id)) (ha : SO X T W Φ G fl a ea) (hb : SO X T W Φ G fl b eb) (hn : x ≠ "__name__" := by decide) (hdb : (x == ("__debug__" : Str)) = false := by decide)
    (he : starEach [a, b] X.env = (false, eval a X.env) :: starEach [b] X.env := by rfl) (he2 : starEach [b] X.env = (false, eval b X.env) :: starEach [] X.env := by rfl) (hpl : (backTo pos (starEach [b] X.env)).any (·.1) = false := by rfl) : SE X T W Φ G fl (.Call (.Name x p) [a, b] [] pos) (.o2 o ea eb) := by
  obtain ⟨r, hr, w⟩ := h
  refine (pe_callB hr hg hm hv (pa_cons ha (pa_cons hb pa_nil he2) he) hn hdb he hpl).imp fun σ H Q h => ?_
  obtain ⟨F, ρ, R, P⟩ := tE_o2 h w
  exact ⟨F, ρ, R, P.mono fun _ _ _ _ _ k v hv => by
    obtain ⟨F, ρ, R, P⟩ := k v hv
    exact ⟨F, ρ, R, P.mono fun _ _ _ _ _ k v hv => k v hv⟩⟩
/-- isinstance(a, C) -/
theorem sIsi {a c : Expr} {ea : E} {cv : V} {o : Op1} {p pos : Pos} (h : ∃ r, CallR X (.builtin "isinstance") r ∧ W1 T o fun v => r [v, cv]) (hg : Gl X "isinstance") (hm : X.mg "isinstance" = none) (ha : SO X T W Φ G fl a ea) (hc : PE X c (tC cv))
    (he : starEach [a, c] X.env = (false, eval a X.env) :: starEach [c] X.env := by rfl) (he2 : starEach [c] X.env = (false, eval c X.env) :: starEach [] X.env := by rfl) (hpl : (backTo pos (starEach [c] X.env)).any (·.1) = false := by rfl) : SE X T W Φ G fl (.Call (.Name "isinstance" p) [a, c] [] pos) (.o1 o ea) := by
  obtain ⟨r, hr, w⟩ := h
  refine (pe_callB hr hg hm PyProof.Rows.boot_isinstance (pa_cons ha (pa_cons hc pa_nil he2) he) (by decide) (by decide) he hpl).imp fun σ H Q h => ?_
  obtain ⟨F, ρ, R, P⟩ := tE_o1 h w
  exact ⟨F, ρ, R, P.mono fun _ _ _ _ _ k v hv => k v hv⟩
/-! ### places, slices -/
theorem six {a b : Expr} {ea eb : E} {p : Pos} (hK : X.K = T.K) (ha : SO X T W Φ G fl a ea) (hb : SO X T W Φ G fl b eb) (hp : PlainIx b := by intro _ _; rfl) : SE X T W Φ G fl (.Subscript a b p) (.o2 .ix ea eb) :=
  (pe_ix ix_seq ha hb hp).imp fun _ _ _ h => by rw [hK]; exact tE_o2 h w2_ix
theorem pnone {m : Env → Res RV} : PO X none (tP T W (partE .non m)) := ⟨fun pins s σ H Q I q => po_none.run pins s σ H Q I (tP_none q)⟩
theorem psome {x : Expr} {e : E} (h : SE X T W Φ G fl x e) (he : ∀ m ρ, partE e m ρ = (m ρ).bnd partK := by intros; rfl) : PO X (some x) (tP T W (partE e (PV.ev Φ G fl e))) :=
  ⟨fun pins s σ H Q I q => (po_some h).run pins s σ H Q I (tP_some (he _) q)⟩
theorem sslice {a : Expr} {lo hi : Option Expr} {ea el eh : E} {p p2 : Pos} (hK : X.K = T.K) (ha : SO X T W Φ G fl a ea) (hl : PO X lo (tP T W (partE el (PV.ev Φ G fl el)))) (hh : PO X hi (tP T W (partE eh (PV.ev Φ G fl eh)))) :
    SE X T W Φ G fl (.Subscript a (.Slice lo hi none p2) p) (.slice ea el eh) :=
  (pe_slice (SlR.or sl_tupA sl_list) ha hl hh).imp fun _ _ _ h => by rw [hK]; exact tE_slice h
/-! ### calls of defs -/
theorem tCallS_mono {sp : Sp} {E : L2.St → XK} {t t' : TA} (h : ∀ σ H Q, t' σ H Q → t σ H Q) : ∀ σ H Q, tCallS sp E t' σ H Q → tCallS sp E t σ H Q := fun σ H Q q => h σ H _ q
theorem scall {k : Nat} {f : Addr} {fd : FuncData} {ps : List Str} {n : Nat} {D : Def} {x : Str} {p pos : Pos} {a : Expr} {as : List Expr} {es : E} (tk : Takes X W) (FO : FnOk X.prog X.w X.K X.mg X.base (L2.CX X.prog X.w) k f fd ps (spF T D (Φ n))) (hr : Room k X.A) (hg : Gl X x) (hm : X.mg x = some (.ref f)) (hkp : PySem.W.keepIn X.K (.ref f) = true) (hb : Binds X.K fd ps [])
    (hk : D.kind = .plain) (ha : SA X T W Φ G fl (a :: as) es) (hdb : (x == ("__debug__" : Str)) = false := by decide) (he : starEach (a :: as) X.env = (false, eval a X.env) :: starEach as X.env := by rfl) (hpl : (backTo pos (starEach as X.env)).any (·.1) = false := by rfl) :
    SE X T W Φ G fl (.Call (.Name x p) (a :: as) [] pos) (.call n es) :=
  (pe_callS FO hr hg hm hkp hb (fun σ => passAt tk σ) ha hdb he hpl).imp fun _ _ _ h => tE_call hk h
theorem socall {k : Nat} {f : Addr} {fd : FuncData} {ps : List Str} {n i : Nat} {D : Def} {x : Str} {p pos : Pos} {a : Expr} {as : List Expr} {es : E} (tk : Takes X W) (FO : FnOk X.prog X.w X.K X.mg X.base (L2.CX X.prog X.w) k f fd ps (spF T D (Φ n))) (hr : Room k X.A) (hg : Gl X x) (hm : X.mg x = some (.ref f)) (hkp : PySem.W.keepIn X.K (.ref f) = true) (hb : Binds X.K fd ps [])
    (hk : D.kind = .ownL) (h1 : PE X a (tVar i)) (ha : SA X T W Φ G fl as es) (hdb : (x == ("__debug__" : Str)) = false := by decide) (he : starEach (a :: as) X.env = (false, eval a X.env) :: starEach as X.env := by rfl) (hpl : (backTo pos (starEach as X.env)).any (·.1) = false := by rfl) :
    SE X T W Φ G fl (.Call (.Name x p) (a :: as) [] pos) (.ocall n i es) :=
  (pe_callS FO hr hg hm hkp hb (fun σ => passAt tk σ) (pa_cons h1 ha he) hdb he hpl).imp fun _ _ _ h => tE_ocall hk h
theorem sfcall {k : Nat} {f : Addr} {fd : FuncData} {ps : List Str} {n : Nat} {D : Def} {x : Str} {p pos : Pos} {a : Expr} {as : List Expr} {e0 es : E} (tk : Takes X W) (FO : FnOk X.prog X.w X.K X.mg X.base (L2.CX X.prog X.w) k f fd ps (spF T D (Φ n))) (hr : Room k X.A) (hg : Gl X x) (hm : X.mg x = some (.ref f)) (hkp : PySem.W.keepIn X.K (.ref f) = true) (hb : Binds X.K fd ps [])
    (hk : D.kind = .ownL) (h1 : SE X T W Φ G fl a e0) (ha : SA X T W Φ G fl as es) (hdb : (x == ("__debug__" : Str)) = false := by decide) (he : starEach (a :: as) X.env = (false, eval a X.env) :: starEach as X.env := by rfl) (hpl : (backTo pos (starEach as X.env)).any (·.1) = false := by rfl) :
    SE X T W Φ G fl (.Call (.Name x p) (a :: as) [] pos) (.fcall n e0 es) :=
  (pe_callS FO hr hg hm hkp hb (fun σ => passAt tk σ) (pa_cons h1 ha he) hdb he hpl).imp fun _ _ _ h => tE_fcall hk h
/-! ### instances -/
theorem sfld {x : Expr} {e : E} {k : Str} {c : Nat} {p : Pos} (hK : X.K = T.K) (hC : Cls T.K (T.cl c)) (hN : NoAttr T.K (T.cl c) k) (h : SE X T W Φ G T.fields x e) (hb : attributeBase x k X.env (eval x X.env) = eval x X.env := by rfl) : SE X T W Φ G T.fields (.Attribute x k p) (.fld c k e) :=
  (pe_fld h hb).imp fun _ _ _ h => by rw [hK]; exact tE_fld rfl hC hN h
theorem passE0 : Passes (L2.CX X.prog X.w) X.nox (fun _ _ _ => False) := fun _ _ _ _ _ _ _ h => by
  obtain ⟨_, _, _, _, _, _, _, _, _, _, _, _, z⟩ := h
  exact z.elim
theorem sprop {k : Nat} {pa g : Addr} {fd : FuncData} {ps : List Str} {n c : Nat} {D : Def} {x : Expr} {e : E} {nm : Str} {p : Pos} (hK : X.K = T.K) (hC : Cls T.K (T.cl c)) (hP : PropOf T.K (T.cl c) nm pa g) (FO : FnOk X.prog X.w X.K X.mg X.base (L2.CX X.prog X.w) k g fd ps (spF T D (Φ n))) (hr : Room (k + 1) X.A) (hb : Binds X.K fd ps [])
    (hk : D.kind = .plain) (h : SE X T W Φ G fl x e) (hat : attributeBase x nm X.env (eval x X.env) = eval x X.env := by rfl) : SE X T W Φ G fl (.Attribute x nm p) (.prop c nm n e) :=
  (pe_prop (dvs := []) (ds := []) h (by rw [hK]; exact hC) (by rw [hK]; exact hP) FO hr hb .nil passE0 hat).imp fun _ _ _ h => tE_prop hk h
/-! ### comprehensions -/
theorem scomp1 {elt tg iter : Expr} {ifs : List Expr} {scope : Scope} {own : List (Str × Nat)} {pos : Pos} {t : Tg} {it cd ee : E} (hK : X.K = T.K) (hc : X.calm = true) (hN : X.N.Nodup) (hi : SI X T W Φ G fl tg iter it) (ok : BlkOk X.N X.env.scope scope own) (hv : ∀ i ∈ tgs t, i ∈ own.map (·.2))
    (hg : ∀ (s : Shared) (H : Hp) (C : Addr) (cl : List (Str × Addr)) (fp : List Addr), PG (X.blk s H scope (compEnvC scope cl C X.env) fp) tg (gT T.K t))
    (ht : ∀ (s : Shared) (H : Hp) (C : Addr) (cl : List (Str × Addr)) (fp : List Addr), PTs (X.blk s H scope (compEnvC scope cl C X.env) fp) ifs (tT T wF (PV.ev Φ G fl cd)))
    (he : ∀ (s : Shared) (H : Hp) (C : Addr) (cl : List (Str × Addr)) (fp : List Addr), SE (X.blk s H scope (compEnvC scope cl C X.env) fp) T wF Φ G fl elt ee)
    (hs : ∀ x, foldedSetIterable iter X.env x = pure x := by intro _; rfl) : SE X T W Φ G fl (.ListComp elt [⟨tg, iter, ifs, 0⟩] scope pos) (.comp1 (own.map (·.2)) t it cd ee) :=
  (pe_lc hc hN hi ok hg ht he hs).imp fun _ _ _ h => tE_comp1 hv h
theorem scomp2 {elt tg iter tg1 iter1 : Expr} {ifs ifs1 : List Expr} {scope : Scope} {own : List (Str × Nat)} {vs1 : List Nat} {pos : Pos} {t t1 : Tg} {it cd it1 cd1 ee : E} (hc : X.calm = true) (hN : X.N.Nodup) (hi : SI X T W Φ G fl tg iter it) (ok : BlkOk X.N X.env.scope scope own) (hvv : ∀ i ∈ vs1, i ∈ own.map (·.2)) (hv : ∀ i ∈ tgs t, i ∈ own.map (·.2)) (hv1 : ∀ i ∈ tgs t1, i ∈ vs1)
    (hg : ∀ (s : Shared) (H : Hp) (C : Addr) (cl : List (Str × Addr)) (fp : List Addr), PG (X.blk s H scope (compEnvC scope cl C X.env) fp) tg (gT T.K t))
    (ht : ∀ (s : Shared) (H : Hp) (C : Addr) (cl : List (Str × Addr)) (fp : List Addr), PTs (X.blk s H scope (compEnvC scope cl C X.env) fp) ifs (tT T wF (PV.ev Φ G fl cd)))
    (hi1 : ∀ (s : Shared) (H : Hp) (C : Addr) (cl : List (Str × Addr)) (fp : List Addr), SI (X.blk s H scope (compEnvC scope cl C X.env) fp) T wF Φ G fl tg1 iter1 it1)
    (hg1 : ∀ (s : Shared) (H : Hp) (C : Addr) (cl : List (Str × Addr)) (fp : List Addr), PG (X.blk s H scope (compEnvC scope cl C X.env) fp) tg1 (gT T.K t1))
    (ht1 : ∀ (s : Shared) (H : Hp) (C : Addr) (cl : List (Str × Addr)) (fp : List Addr), PTs (X.blk s H scope (compEnvC scope cl C X.env) fp) ifs1 (tT T wF (PV.ev Φ G fl cd1)))
    (he : ∀ (s : Shared) (H : Hp) (C : Addr) (cl : List (Str × Addr)) (fp : List Addr), SE (X.blk s H scope (compEnvC scope cl C X.env) fp) T wF Φ G fl elt ee)
    (hs : ∀ x, foldedSetIterable iter X.env x = pure x := by intro _; rfl) (hs1 : ∀ env x, foldedSetIterable iter1 env x = pure x := by intro _ _; rfl) :
    SE X T W Φ G fl (.ListComp elt [⟨tg, iter, ifs, 0⟩, ⟨tg1, iter1, ifs1, 0⟩] scope pos) (.comp2 (own.map (·.2)) vs1 t it cd t1 it1 cd1 ee) :=
  (pe_lc2 hc hN hi ok hvv hg ht hi1 hg1 ht1 he hs hs1).imp fun _ _ _ h => tE_comp2 hv hv1 hvv h
/-- no test; one test -/
theorem cnil : PTs X [] (tT T W (PV.ev Φ G fl (.bl true))) := ⟨fun pins s σ H Q I h => pts_nil.run pins s σ H Q I (by
  obtain ⟨F, ρ, R, P⟩ := h
  obtain ⟨b, e, q⟩ := P F H (Ste.refl R)
  cases e
  exact q)⟩
theorem cone {c : Expr} {e : E} (h : ST X T W Φ G fl c e) : PTs X [c] (tT T W (PV.ev Φ G fl e)) := pts_one h
/-! ### what is walked -/
theorem iseq {tg x : Expr} {e : E} (hK : X.K = T.K) (h : SE X T W Φ G fl x e) : SI X T W Φ G fl tg x (.iSeq e) := (pi_seq h).imp fun _ _ _ h => by rw [hK]; exact tI_seq h
theorem iown {tg x : Expr} {i : Nat} (hK : X.K = T.K) (h : PE X x (tVar i)) : SI X T W Φ G fl tg x (.iOwn i) := (pi_list h).imp fun _ _ _ h => by rw [hK]; exact tI_own h
theorem irng1 {tg a : Expr} {e : E} {p pos : Pos} (hg : Gl X "range") (hm : X.mg "range" = none) (h : SE X T W Φ G fl a e) (hs : starEach [a] X.env = [(false, eval a X.env)] := by rfl) : SI X T W Φ G fl tg (.Call (.Name "range" p) [a] [] pos) (.iRng1 e) :=
  (pi_range1 hg hm (pa_cons h pa_nil hs) hs).imp fun _ _ _ h => tI_rng1 h
theorem irng2 {tg a b : Expr} {e e' : E} {p pos : Pos} (hg : Gl X "range") (hm : X.mg "range" = none) (h : SE X T W Φ G fl a e) (h' : SE X T W Φ G fl b e') (hs : starEach [a, b] X.env = [(false, eval a X.env), (false, eval b X.env)] := by rfl) (hs2 : starEach [b] X.env = [(false, eval b X.env)] := by rfl) :
    SI X T W Φ G fl tg (.Call (.Name "range" p) [a, b] [] pos) (.iRng2 e e') :=
  (pi_range2 hg hm (pa_cons h (pa_cons h' pa_nil hs2) (hs.trans (by rw [hs2]))) hs hs2).imp fun _ _ _ h => tI_rng2 h
/-! ### targets -/
theorem gnm {p : Pos} {i : Nat} {x : Str} (hN : X.N.Nodup) (hi : X.N[i]? = some x) (hx : Loc X.env.scope x) (hf : X.fn x = true ∨ X.env.scope.names.lookup x = some .local) : PG X (.Name x p) (gT T.K (.nm i)) := pg_name hN hi hx hf
theorem gsnil : PGs X [] (gTs []) := pgs_nil
theorem gscons {p : Pos} {i : Nat} {x : Str} {es : List Expr} {is : List Nat} (hN : X.N.Nodup) (hi : X.N[i]? = some x) (hx : Loc X.env.scope x) (hf : X.fn x = true ∨ X.env.scope.names.lookup x = some .local) (h : PGs X es (gTs is))
    (hs : (assignEach (.Name x p :: es) X.env).map (·.2) = assign (.Name x p) X.env :: (assignEach es X.env).map (·.2) := by rfl) : PGs X (.Name x p :: es) (gTs (i :: is)) := pgs_cons (pg_name hN hi hx hf) h hs
theorem gtp {es : List Expr} {k : Nat} {is : List Nat} {p : Pos} (hK : X.K = T.K) (hc : X.calm = true) (h : PGs X es (gTs is)) (hn : (assignEach es X.env).length = is.length := by rfl) (hst : (assignEach es X.env).findIdx? (·.1) = none := by rfl) : PG X (.Tuple es k p) (gT T.K (.tp is)) := by
  have := pg_tup (pos := p) (k := k) hc h hn hst
  rw [hK] at this
  exact this
end
end PV
end

section
set_option Elab.async false
set_option linter.all false
set_option autoImplicit false
set_option maxRecDepth 100000
set_option maxHeartbeats 4000000
/-! PVC: the operations as rules. -/
namespace PV
open PySem PySem.Spec L2

theorem preSum_take (ns : List Int) : ∀ n, n ≤ ns.length → preSum (fun i => ns.getD i 0) n = (ns.take n).sum
  | 0, _ => by simp [preSum]
  | n + 1, h => by
    have ih := preSum_take ns n (by omega)
    rw [preSum, ih, List.take_add_one, List.sum_append]
    have : n < ns.length := by omega
    simp [List.getD_eq_getElem?_getD, List.getElem?_eq_getElem this]
theorem ints_at : ∀ {us : List Value} {ns : List Int}, PyProof.Rows.IntsAre us ns → ∀ (i : Nat) (v : Value), us[i]? = some v → ∃ t, v = .int (ns.getD i 0) t
  | _, _, .nil, i, v, h => by simp at h
  | _, _, .cons n t r, 0, v, h => by
    have e : Value.int n t = v := by simpa using h
    exact ⟨t, e.symm⟩
  | _, _, .cons n t r, i + 1, v, h => by
    obtain ⟨t', e⟩ := ints_at r i v (by simpa using h)
    exact ⟨t', by rw [e]; rfl⟩
theorem sum_rawT {prog : Program} {w : World} {A : Around} {E : Value → Shared → Prop} {s : Shared} {l : Addr} {its : List Value} {ns : List Int} {Q : Value → Shared → Prop} (hh : A.handled = none) (hl : s.heap.IsTuple l its.toArray) (hi : PyProof.Rows.IntsAre its ns)
    (h : ∀ h' tk t', (∀ b o, s.heap.get? b = some o → h'.get? b = some o) → Q (.int ns.sum t') { s with heap := h', toks := tk }) : wpAny (model prog w) A (call (.builtin "sum") [.ref l]) Q E s := by
  have hsz : its.length = ns.length := PyProof.Rows.IntsAre.length hi
  have hlt : l < s.heap.objs.size := by
    obtain ⟨o, ho, _⟩ := hl
    exact Heap.lt_size ho
  refine call_sum_walkG (wpAny_pyIter_tuple hl ?_)
  have kp : ∀ b o, s.heap.get? b = some o → (s.heap.push { cls := .type "tuple_iterator", data := .fields #[.ref l, .int 0 0] }).get? b = some o := fun b o e => Heap.get?_push_of_some _ e
  refine ⟨s.heap.objs.size, [s.heap.objs.size, l], [s.heap.objs.size], its.toArray.size, _, _, fun i => ns.getD i 0, rfl, Walks.tuple (A := A.in1) hh _ l (Nat.ne_of_lt hlt) its.toArray,
    ⟨⟨_, Heap.get?_push_size _ rfl, rfl, rfl⟩, ?_⟩, fun b hb => ?_, fun i v hv => ints_at hi i v (by simpa using hv), fun h' tk t' hk => ?_⟩
  · obtain ⟨o, ho, r⟩ := hl
    exact ⟨o, kp l o ho, r⟩
  · rw [Heap.size_push]
    have e : b = s.heap.objs.size ∨ b = l := by simpa using hb
    rcases e with e | e
    · rw [e]; exact Nat.lt_succ_self _
    · rw [e]; exact Nat.lt_succ_of_lt hlt
  · have := h h' tk t' fun b o e => hk b o (fun hm => by
      have e2 : b = s.heap.objs.size := by simpa using hm
      rw [e2] at e
      exact absurd (Heap.lt_size e) (Nat.lt_irrefl _)) (kp b o e)
    rw [List.size_toArray, preSum_take ns _ (by omega), hsz, List.take_length]
    exact this
namespace TM
open PyProof.Rows
theorem tuple_mul_same (l : Addr) (items : Array Value) (n : Nat) (dd : Option Addr) (sl : Array (Option Value)) (x : Int) (u : Tok) (c0 : (decide (x < -(2 ^ 63)) || decide (x ≥ 2 ^ 63)) = false) (c1 : (items.isEmpty || x == 1) = true) :
    Meets (Builtin.«tuple.__mul__» ⟨[.ref l, .int x u], []⟩) (fun _ R s => s.heap.get? l = some { cls := .type "tuple", dict := dd, data := .seq items n, slots := sl } ∧ R (.ok (.ret (Value.ref l))) s) :=
  .of_wp fun prog w A R s h => by
    obtain ⟨hp, g, d, tk, os⟩ := s
    obtain ⟨hl, h⟩ := h
    have f1 := AutoSeq1.idx_int
    wp_walk using wpAny_loadPart' hl
    repeat (first
      | (refine wpAny_ite_false (decide_eq_false (by rw [c0]; exact Bool.false_ne_true)) ?_; wp_walk using wpAny_loadPart' hl)
      | (refine wpAny_ite_true (decide_eq_true (by rw [c1])) ?_; wp_walk using wpAny_loadPart' hl))
    exact ⟨_, rfl, h⟩
theorem op_repS {X : Cx} : OpR X (binaryOp .Mult) (fun x y H Q => ∃ l k xs, x = .ref l ∧ y = .int k ∧ SqT X.K H l xs ∧ (k = 1 ∨ xs = []) ∧ 1 ≤ k ∧ k ≤ 1000 ∧ Q (.ref l) H) := by
  intro pins s σ H x y v u Q I rx ry h
  obtain ⟨l, k, xs, rfl, rfl, hT, hne, h1, h2, q⟩ := h
  cases rx
  obtain ⟨t, rfl⟩ := ry
  obtain ⟨its, r, ⟨⟨cls, dd, data, sl⟩, ho, hc, n, hd⟩, hs⟩ := I.tuple hT
  simp only at hc hd
  subst hc hd
  have c0 : (decide (k < -(2 ^ 63)) || decide (k ≥ 2 ^ 63)) = false := by
    rw [decide_eq_false (by omega), decide_eq_false (by omega)] <;> rfl
  have c1 : (its.toArray.isEmpty || k == 1) = true := by
    rcases hne with e | e
    · subst e; simp
    · subst e
      cases r
      rfl
  exact wpAny_binaryOp_repeat_ref (T := "tuple") (U := "int") (by decide) ⟨_, ho, rfl⟩ (fun s' => typeIs_int s' k t) noFill_tuple_mul F.fills_int_mul F.slot_int_rmul repeat_tuple F.slot_int_index.lookup
    (call_meets F.slot_int_rmul (typeIs_int s k t) F.entry_int_rmul (F.args_int_rmul_2 _ _) (int_rmul_tuple k t l its.toArray n dd sl)
      ⟨ho, rfl, ⟨_, ho, rfl⟩, call_meets F.slot_tuple_mul ⟨_, ho, rfl⟩ F.entry_tuple_mul (F.args_tuple_mul_2 _ _) (tuple_mul_same l its.toArray n dd sl k t c0 c1) ⟨ho, ⟨.ref l, H, I, rfl, q⟩⟩⟩)
end TM
section
variable {X : Cx} {T : Sta}
theorem OpR.imp {f : Value → Value → Sem Value} {r r' : R2} (h : OpR X f r) (k : ∀ x y H Q, r' x y H Q → r x y H Q) : OpR X f r' := fun pins s σ H x y v u Q I rx ry q => h pins s σ H x y v u Q I rx ry (k _ _ _ _ q)
theorem CallR.imp {f : Value} {r r' : List V → Hp → VK → Prop} (h : CallR X f r) (k : ∀ xs H Q, r' xs H Q → r xs H Q) : CallR X f r' := fun pins s σ H xs us Q I rx q => h pins s σ H xs us Q I rx (k _ _ _ q)
theorem CallR.or' {f : Value} {r r' : List V → Hp → VK → Prop} (h : CallR X f r) (h' : CallR X f r') : CallR X f (fun xs H Q => r xs H Q ∨ r' xs H Q) := fun pins s σ H xs us Q I rx q => q.elim (fun q => h pins s σ H xs us Q I rx q) fun q => h' pins s σ H xs us Q I rx q
theorem OpR.or' {f : Value → Value → Sem Value} {r r' : R2} (h : OpR X f r) (h' : OpR X f r') : OpR X f (fun x y H Q => r x y H Q ∨ r' x y H Q) := fun pins s σ H x y v u Q I rx ry q => q.elim (fun q => h pins s σ H x y v u Q I rx ry q) fun q => h' pins s σ H x y v u Q I rx ry q

/-! ### arithmetic -/
theorem b_add (hK : X.K = T.K) : BinOk X T .Add .add := ⟨_, by
  have := OpR.or' (op_add (X := X)) (OpR.or' op_add_str (OpR.or' op_catA op_cat))
  rw [hK] at this
  exact this, w2_add⟩
theorem b_mul (hK : X.K = T.K) : BinOk X T .Mult .mul := ⟨rMulB T.K, by
  have := OpR.or' (op_mul (X := X)) (OpR.or' (OpR.or' TM.op_repS op_repT) op_rep)
  rw [hK] at this
  exact OpR.imp this fun x y H Q q => by
    rcases q with q | ⟨a, xs, k, e1, e2, hT, h1, h2, h3, q1, q2⟩ | q
    · exact .inl q
    · refine .inr (.inl ?_)
      by_cases hs : k = 1 ∨ xs = []
      · exact .inl ⟨a, k, xs, e1, e2, hT, hs, h1, h2, q1 hs⟩
      · exact .inr ⟨a, k, xs, e1, e2, hT, fun e => hs (.inr e), by omega, h2, h3, q2⟩
    · exact .inr (.inr q), w2_mul⟩
theorem b_sub : BinOk X T .Sub .sub := ⟨_, op_sub, w2_sub⟩
theorem b_div : BinOk X T .FloorDiv .fdiv := ⟨_, op_fdivN, w2_fdiv⟩
theorem b_mod : BinOk X T .Mod .mod := ⟨_, op_mod, w2_mod⟩
theorem b_pow : BinOk X T .Pow .pow := ⟨_, op_pow, w2_pow⟩
theorem c_eq (hK : X.K = T.K) (hu : X.A.units + 65 < cLine) : CmpOk X T .Eq .eq := ⟨_, by have := op_eqD (X := X) (by omega); rw [hK] at this; exact this, w2_eq⟩
theorem c_ne (hK : X.K = T.K) (hu : X.A.units + 65 < cLine) : CmpOk X T .NotEq .ne := ⟨_, by have := op_neD (X := X) (by omega); rw [hK] at this; exact this, w2_ne⟩
theorem c_lt : CmpOk X T .Lt .lt := ⟨_, op_lt, w2_lt⟩
theorem c_le : CmpOk X T .LtE .le := ⟨_, op_le, w2_le⟩
theorem c_gt : CmpOk X T .Gt .gt := ⟨_, op_gt, w2_gt⟩
theorem c_ge : CmpOk X T .GtE .ge := ⟨_, op_ge, w2_ge⟩
/-! ### in -/
theorem flV_rep {F : Hp} {x : Val} {v w : V} (h : Rep T F x v) (e : flV x = some w) : v = w ∧ flatV w = true := by
  cases x <;> cases e <;> exact ⟨h, rfl⟩
theorem flVs_rep {F : Hp} : ∀ {xs : List Val} {vs ws : List V}, Reps T F xs vs → flVs xs = some ws → vs = ws ∧ ws.all flatV = true
  | [], vs, ws, h, e => by cases e; exact ⟨h, rfl⟩
  | x :: xs, vs, ws, ⟨v, us, h1, h2, h3⟩, e => by
    simp only [flVs] at e
    split at e
    · rename_i w1 w2 e1 e2
      cases e
      obtain ⟨a1, a2⟩ := flV_rep h2 e1
      obtain ⟨b1, b2⟩ := flVs_rep h3 e2
      subst a1 b1
      exact ⟨h1, by rw [List.all_cons, a2, b2]; rfl⟩
    · cases e
def rInAll (K : PySem.W.Frag) (ng : Bool) : R2 := fun x y H Q => (∃ d ds, Dp K H x d ∧ Dp K H y (.list ds) ∧ SeqAt.shaped d = true ∧ SeqAt.shaped (.list ds) = true ∧ Q (.bl (ng != (ds.any fun z => PyData.eqv z d))) H) ∨
  rIn K ng x y H Q ∨ (∃ (i : Int) (a : Addr) (S : Int → Bool) (n : Nat), x = .int i ∧ y = .ref a ∧ H a = some (.set S n) ∧ Q (.bl (ng != S i)) H) ∨ (∃ (c : Nat) (z : Str), x = .str ⟨#[c]⟩ ∧ y = .str z ∧ Q (.bl (ng != decide (c ∈ z.cps.toList))) H)
theorem inV_all {F H : Hp} {Q : VK} {x y : Val} {v u : V} {b ng : Bool} (e : inV x y = some b) (h : RepB T F H x v) (k : RepB T F H y u) (le : Le F H) (q : Q (.bl (ng != b)) H) : rInAll T.K ng v u H Q := by
  cases y with
  | lst ys =>
    simp only [inV] at e
    split at e
    · rename_i d ds h1 h2
      split at e
      · rename_i hs
        cases e
        simp only [Bool.and_eq_true] at hs
        refine .inl ⟨d, ds, h.dp le h1, k.dp le ?_, hs.1, hs.2, q⟩
        simp only [Val.toD, h2]
      · cases e
    · cases e
  | tup dd ys =>
    simp only [inV] at e
    split at e
    · rename_i w ws h1 h2
      cases e
      obtain ⟨a, vs, e1, ⟨g1, _⟩, r⟩ := k
      obtain ⟨b1, b2⟩ := flVs_rep r h2
      have hx : Rep T F x v := by cases x <;> first | exact h | cases h1
      obtain ⟨c1, c2⟩ := flV_rep hx h1
      subst b1 c1
      refine .inr (.inl ⟨a, vs, e1, .inr (le.sqt g1), c2, b2, ?_⟩)
      cases ng <;> first | exact q | (simpa using q)
    · cases e
  | st is =>
    cases x with
    | int i =>
      cases e
      obtain ⟨a, S, n, e1, h1, h2⟩ := k
      refine .inr (.inr (.inl ⟨i, a, S, n, h, e1, le _ _ h1, ?_⟩))
      rw [h2]
      exact q
    | _ => cases e
  | str z =>
    cases x with
    | str y =>
      simp only [inV] at e
      split at e
      · rename_i c hc
        cases e
        refine .inr (.inr (.inr ⟨c, z, ?_, k, q⟩))
        rw [show v = .str y from h]
        have : y = ⟨#[c]⟩ := by
          cases y with
          | mk a =>
            congr 1
            exact Array.toList_inj.mp hc
        rw [this]
      · cases e
    | _ => cases e
  | _ => cases e
theorem op_inSt : OpR X (compareOp .In) (fun x y H Q => ∃ (i : Int) (a : Addr) (S : Int → Bool) (n : Nat), x = .int i ∧ y = .ref a ∧ H a = some (.set S n) ∧ Q (.bl (S i)) H) := by
  intro pins s σ H x y v u Q I rx ry h
  obtain ⟨k, a, S, n, rfl, rfl, ha, q⟩ := h
  obtain ⟨tk, rfl⟩ := rx
  cases ry
  exact wpAny_inSet_of (intKind_is _ _ _ _) rfl (show s.heap.SetOf (intKind X.prog X.w) a S n from I.hok a _ ha) ⟨.bl (S k), H, I.tok _, rfl, q⟩
theorem op_notInSt : OpR X (compareOp .NotIn) (fun x y H Q => ∃ (i : Int) (a : Addr) (S : Int → Bool) (n : Nat), x = .int i ∧ y = .ref a ∧ H a = some (.set S n) ∧ Q (.bl (!S i)) H) := by
  intro pins s σ H x y v u Q I rx ry h
  obtain ⟨k, a, S, n, rfl, rfl, ha, q⟩ := h
  obtain ⟨tk, rfl⟩ := rx
  cases ry
  exact wpAny_notInSet_of (intKind_is _ _ _ _) rfl (show s.heap.SetOf (intKind X.prog X.w) a S n from I.hok a _ ha) ⟨.bl (!S k), H, I.tok _, rfl, q⟩
theorem c_in (hK : X.K = T.K) (hu : X.A.units + 65 < cLine) : CmpOk X T .In .inn := by
  refine ⟨rInAll T.K false, ?_, fun {F H x y v u z Q} e h k le w => ?_⟩
  · have := OpR.or' (op_inD hu) (OpR.or' (op_in_seq (X := X)) (OpR.or' op_inSt op_inS))
    rw [hK] at this
    exact OpR.imp this fun x y H Q q => by
      rcases q with ⟨d, ds, h1, h2, h3, h4, q⟩ | q | ⟨i, a, S, n, h1, h2, h3, q⟩ | ⟨c, z, h1, h2, q⟩
      · exact .inl ⟨d, ds, h1, h2, h3, h4, by simpa using q⟩
      · exact .inr (.inl q)
      · exact .inr (.inr (.inl ⟨i, a, S, n, h1, h2, h3, by simpa using q⟩))
      · exact .inr (.inr (.inr ⟨c, z, h1, h2, by simpa using q⟩))
  · simp only [op2, b2V] at e
    split at e
    · rename_i b hb
      cases e
      exact inV_all hb h k le (by simpa using w.now le rfl)
    · cases e
theorem c_notin (hK : X.K = T.K) (hu : X.A.units + 65 < cLine) : CmpOk X T .NotIn .notin := by
  refine ⟨rInAll T.K true, ?_, fun {F H x y v u z Q} e h k le w => ?_⟩
  · have := OpR.or' (op_notInD hu) (OpR.or' (op_notIn_seq (X := X)) (OpR.or' op_notInSt op_notInS))
    rw [hK] at this
    exact OpR.imp this fun x y H Q q => by
      rcases q with ⟨d, ds, h1, h2, h3, h4, q⟩ | q | ⟨i, a, S, n, h1, h2, h3, q⟩ | ⟨c, z, h1, h2, q⟩
      · exact .inl ⟨d, ds, h1, h2, h3, h4, by simpa using q⟩
      · exact .inr (.inl q)
      · exact .inr (.inr (.inl ⟨i, a, S, n, h1, h2, h3, by simpa using q⟩))
      · exact .inr (.inr (.inr ⟨c, z, h1, h2, by simpa using q⟩))
  · simp only [op2, b2V] at e
    split at e
    · rename_i b hb
      cases e
      exact inV_all hb h k le (by simpa using w.now le rfl)
    · cases e
/-! ### calls -/
theorem k_len (hK : X.K = T.K) : CallOk1 X T (.builtin "len") .len := ⟨_, by have := CallR.or' (call_len_seq (X := X)) call_len_str; rw [hK] at this; exact this, w1_len⟩
theorem k_all (hK : X.K = T.K) (hc : X.calm = true) : CallOk1 X T (.builtin "all") .all := ⟨_, by have := cr_all (X := X) hc; rw [hK] at this; exact this, w1_all⟩
theorem k_any (hK : X.K = T.K) (hc : X.calm = true) : CallOk1 X T (.builtin "any") .any := ⟨_, by have := cr_any (X := X) hc; rw [hK] at this; exact this, w1_any⟩
theorem k_abs : CallOk1 X T (.builtin "abs") .abs := ⟨_, call_abs, w1_abs⟩
theorem k_int : CallOk1 X T (.type "int") .int := ⟨_, call_int1, w1_int⟩
theorem k_str : CallOk1 X T (.type "str") .str := ⟨_, CallR.or' call_str_int SkE.call_str_str, w1_str⟩
theorem k_list (hK : X.K = T.K) : CallOk1 X T (.type "list") .list := ⟨_, by have := call_list_of (X := X); rw [hK] at this; exact this, w1_list⟩
theorem k_tuple (hK : X.K = T.K) : CallOk1 X T (.type "tuple") .tuple := ⟨_, by have := call_tuple_of (X := X); rw [hK] at this; exact this, w1_tuple⟩
theorem k_sorted (hK : X.K = T.K) : CallOk1 X T (.builtin "sorted") .sorted := ⟨_, by have := cr_sortedI (X := X); rw [hK] at this; exact this, w1_sorted⟩
theorem k_maxL (hK : X.K = T.K) (hc : X.calm = true) : CallOk1 X T (.builtin "max") .maxL := ⟨_, by have := cr_max (X := X) hc; rw [hK] at this; exact this, w1_maxL⟩
theorem k_minL (hK : X.K = T.K) (hc : X.calm = true) : CallOk1 X T (.builtin "min") .minL := ⟨_, by have := cr_min (X := X) hc; rw [hK] at this; exact this, w1_minL⟩
theorem k_max (hc : X.calm = true) : CallOk2 X T (.builtin "max") .max := ⟨_, call_max2 hc, w2_max⟩
theorem k_min (hc : X.calm = true) : CallOk2 X T (.builtin "min") .min := ⟨_, call_min2 hc, w2_min⟩
theorem k_divmod : CallOk2 X T (.builtin "divmod") .divmod := ⟨_, call_divmod, w2_divmod⟩
/-- sum of a list, of a tuple of ints -/
theorem sum_tup (hc : X.calm = true) : CallR X (.builtin "sum") (fun vs H Q => ∃ (a : Addr) (ns : List Int), vs = [V.ref a] ∧ SqT X.K H a (ns.map V.int) ∧ Q (.int ns.sum) H) := by
  intro pins s σ H vs us Q I r h
  obtain ⟨a, ns, rfl, hs, q⟩ := h
  obtain ⟨its, rv, hl, _⟩ := I.tuple hs
  rw [Vals.ref1 r]
  exact sum_rawT (I.ok.hd hc) hl rv.ints fun h' tk t' hk => ⟨.int _, H, I.kept hk, ⟨_, rfl⟩, q⟩
theorem k_sum (hK : X.K = T.K) (hc : X.calm = true) : CallOk1 X T (.builtin "sum") .sum := ⟨_, by
  have := CallR.or' (cr_sum (X := X) hc) (sum_tup hc)
  rw [hK] at this
  exact CallR.imp (r' := rSumB T.K) this fun xs H Q q => by
    obtain ⟨a, ns, e, h, q⟩ := q
    rcases h with h | h
    · exact .inl ⟨a, ns, e, h, q⟩
    · exact .inr ⟨a, ns, e, h, q⟩, w1_sum⟩
end
end PV
end

section
set_option Elab.async false
set_option linter.all false
set_option autoImplicit false
set_option maxRecDepth 100000
set_option maxHeartbeats 4000000
/-! PVD: the rules by what is written: statements. -/
namespace PV
open PySem PySem.Spec L2

abbrev SS (X : Cx) (T : Sta) (z : Bool) (W : WX) (Φ : Fns) (G : Nat → Option Val) (fl : Nat → List Str) (st : Stmt) (s : S) : Prop := PS X st (tS T z W (xS Φ G fl s))
abbrev SB (X : Cx) (T : Sta) (z : Bool) (W : WX) (Φ : Fns) (G : Nat → Option Val) (fl : Nat → List Str) (sts : List Stmt) (s : S) : Prop := PSs X sts (tS T z W (xS Φ G fl s))
section
variable {X : Cx} {T : Sta} {z : Bool} {W : WX} {Φ : Fns} {G : Nat → Option Val} {fl : Nat → List Str} {p : Pos}
theorem nz {z : Bool} {i : Nat} (hz : z = false ∨ i ≠ 0) : z = false ∨ 0 ∉ tgs (.nm i) := hz.imp id fun h q => by
  have e : 0 = i := by simpa [tgs] using q
  exact h e.symm
theorem qnil : SB X T z W Φ G fl [] .nop := pss_nil.imp fun _ _ _ h => tS_nop h
theorem qcons {st : Stmt} {rest : List Stmt} {a b : S} (ha : SS X T z W Φ G fl st a) (hb : SB X T z W Φ G fl rest b) : SB X T z W Φ G fl (st :: rest) (.seq a b) := (pss_cons ha hb).imp fun _ _ _ h => tS_seq h
theorem qone {st : Stmt} {a : S} (ha : SS X T z W Φ G fl st a) : SB X T z W Φ G fl [st] a := pss_one ha
theorem qnever {st : Stmt} : SS X T z W Φ G fl st .never := ps_never.imp fun _ _ _ h => tS_never h
theorem qnevers {st : List Stmt} : SB X T z W Φ G fl st .never := pss_never.imp fun _ _ _ h => tS_never h
theorem qpass : SS X T z W Φ G fl (.Pass p) .nop := ps_pass.imp fun _ _ _ h => tS_nop h
theorem qbrk : SS X T z W Φ G fl (.Break p) .brk := ps_break.imp fun _ _ _ h => tS_brk h
theorem qcont : SS X T z W Φ G fl (.Continue p) .cont := ps_continue.imp fun _ _ _ h => tS_cont h
theorem qexpr {x : Expr} {e : E} (h : SE X T W Φ G fl x e) (hs : swapsWith x none p.line X.env = pure false := by rfl) : SS X T z W Φ G fl (.Expr x p) (.expr e) := (ps_expr h hs).imp fun _ _ _ h => tS_expr h
theorem qret {x : Expr} {e : E} (h : SE X T W Φ G fl x e) : SS X T z W Φ G fl (.Return (some x) p) (.ret e) := (ps_ret h).imp fun _ _ _ h => tS_ret h
theorem qretO {x : Expr} {e : E} (h : SE X T W Φ G fl x e) : SS X T z W Φ G fl (.Return (some x) p) (.retO e) := (ps_ret h).imp fun _ _ _ h => tS_retO h
theorem qretN : SS X T z W Φ G fl (.Return none p) .retN := ps_retN.imp fun _ _ _ h => tS_retN h
theorem qif {c : Expr} {a b : List Stmt} {e : E} {sa sb : S} (hc : ST X T W Φ G fl c e) (ha : SB X T z W Φ G fl a sa) (hb : SB X T z W Φ G fl b sb) : SS X T z W Φ G fl (.If c a b p) (.iff e sa sb) := (ps_if hc ha hb).imp fun _ _ _ h => tS_iff h
/-! ### assignments -/
theorem qasg {tg x : Expr} {t : Tg} {e : E} (hz : z = false ∨ 0 ∉ tgs t) (h : SE X T W Φ G fl x e) (hg : PG X tg (gT T.K t)) (hs : swapsWithSole [tg] x p.line X.env = pure false := by rfl) (hw : swappedStores [tg] x X.env = pure none := by rfl)
    (h1 : (assignEach [tg] X.env).map (·.2) = [assign tg X.env] := by rfl) : SS X T z W Φ G fl (.Assign [tg] x p) (.asg t e) := (ps_asg h hg hs hw h1).imp fun _ _ _ h => tS_asg hz h
theorem qown {i : Nat} {y : Str} {py : Pos} {x : Expr} {e : E} (hz : z = false ∨ i ≠ 0) (hN : X.N.Nodup) (hi : X.N[i]? = some y) (hl : Loc X.env.scope y) (h : SE X T W Φ G fl x e) (hs : swapsWith x (some (.Name y py)) p.line X.env = pure false := by rfl) (hf : X.fn y = true ∨ X.env.scope.names.lookup y = some .local) :
    SS X T z W Φ G fl (.Assign [.Name y py] x p) (.own i e) := (ps_set hN hi hl h hs hf).imp fun _ _ _ h => tS_own hz h
theorem qset {i : Nat} {y : Str} {py : Pos} {x : Expr} {e : E} (hz : z = false ∨ i ≠ 0) (hN : X.N.Nodup) (hi : X.N[i]? = some y) (hl : Loc X.env.scope y) (h : SE X T W Φ G fl x e) (hs : swapsWith x (some (.Name y py)) p.line X.env = pure false := by rfl) (hf : X.fn y = true ∨ X.env.scope.names.lookup y = some .local) :
    SS X T z W Φ G fl (.Assign [.Name y py] x p) (.asg (.nm i) e) := (ps_set hN hi hl h hs hf).imp fun _ _ _ h => tS_asg (t := .nm i) (nz hz) h
/-- y = [comprehension], the store ahead of the end -/
theorem qsetC1 {i : Nat} {y : Str} {py : Pos} {elt tg iter : Expr} {ifs : List Expr} {scope : Scope} {own : List (Str × Nat)} {pos : Pos} {t : Tg} {it cd ee : E} (hz : z = false ∨ i ≠ 0) (hc : X.calm = true) (hN : X.N.Nodup) (hy : X.N[i]? = some y) (hl : X.env.scope.names.lookup y = some .local)
    (hsw : swapsWith (.ListComp elt [⟨tg, iter, ifs, 0⟩] scope pos) (some (.Name y py)) p.line X.env = pure true)
    (hi : SI X T W Φ G fl tg iter it) (ok : BlkOk X.N X.env.scope scope own) (hv : ∀ i ∈ tgs t, i ∈ own.map (·.2))
    (hg : ∀ (s : Shared) (H : Hp) (C : Addr) (cl : List (Str × Addr)) (fp : List Addr), PG (X.blk s H scope (compEnvC scope cl C X.env) fp) tg (gT T.K t))
    (ht : ∀ (s : Shared) (H : Hp) (C : Addr) (cl : List (Str × Addr)) (fp : List Addr), PTs (X.blk s H scope (compEnvC scope cl C X.env) fp) ifs (tT T wF (PV.ev Φ G fl cd)))
    (he : ∀ (s : Shared) (H : Hp) (C : Addr) (cl : List (Str × Addr)) (fp : List Addr), SE (X.blk s H scope (compEnvC scope cl C X.env) fp) T wF Φ G fl elt ee)
    (hs : ∀ x, foldedSetIterable iter X.env x = pure x := by intro _; rfl) : SS X T z W Φ G fl (.Assign [.Name y py] (.ListComp elt [⟨tg, iter, ifs, 0⟩] scope pos) p) (.asg (.nm i) (.comp1 (own.map (·.2)) t it cd ee)) :=
  (ps_setLc hc hN hy hl hsw hi ok hg ht he hs).imp fun D σ H h => by
    have h' := tS_asg (t := .nm i) (nz hz) h
    exact tE_comp1 hv h'
theorem qownC1 {i : Nat} {y : Str} {py : Pos} {elt tg iter : Expr} {ifs : List Expr} {scope : Scope} {own : List (Str × Nat)} {pos : Pos} {t : Tg} {it cd ee : E} (hz : z = false ∨ i ≠ 0) (hc : X.calm = true) (hN : X.N.Nodup) (hy : X.N[i]? = some y) (hl : X.env.scope.names.lookup y = some .local)
    (hsw : swapsWith (.ListComp elt [⟨tg, iter, ifs, 0⟩] scope pos) (some (.Name y py)) p.line X.env = pure true)
    (hi : SI X T W Φ G fl tg iter it) (ok : BlkOk X.N X.env.scope scope own) (hv : ∀ i ∈ tgs t, i ∈ own.map (·.2))
    (hg : ∀ (s : Shared) (H : Hp) (C : Addr) (cl : List (Str × Addr)) (fp : List Addr), PG (X.blk s H scope (compEnvC scope cl C X.env) fp) tg (gT T.K t))
    (ht : ∀ (s : Shared) (H : Hp) (C : Addr) (cl : List (Str × Addr)) (fp : List Addr), PTs (X.blk s H scope (compEnvC scope cl C X.env) fp) ifs (tT T wF (PV.ev Φ G fl cd)))
    (he : ∀ (s : Shared) (H : Hp) (C : Addr) (cl : List (Str × Addr)) (fp : List Addr), SE (X.blk s H scope (compEnvC scope cl C X.env) fp) T wF Φ G fl elt ee)
    (hs : ∀ x, foldedSetIterable iter X.env x = pure x := by intro _; rfl) : SS X T z W Φ G fl (.Assign [.Name y py] (.ListComp elt [⟨tg, iter, ifs, 0⟩] scope pos) p) (.own i (.comp1 (own.map (·.2)) t it cd ee)) :=
  (ps_setLc hc hN hy hl hsw hi ok hg ht he hs).imp fun D σ H h => tE_comp1 hv (tS_own hz h)
theorem qsetC2 {i : Nat} {y : Str} {py : Pos} {elt tg iter tg1 iter1 : Expr} {ifs ifs1 : List Expr} {scope : Scope} {own : List (Str × Nat)} {vs1 : List Nat} {pos : Pos} {t t1 : Tg} {it cd it1 cd1 ee : E} (hz : z = false ∨ i ≠ 0) (hc : X.calm = true) (hN : X.N.Nodup) (hy : X.N[i]? = some y) (hl : X.env.scope.names.lookup y = some .local)
    (hsw : swapsWith (.ListComp elt [⟨tg, iter, ifs, 0⟩, ⟨tg1, iter1, ifs1, 0⟩] scope pos) (some (.Name y py)) p.line X.env = pure true)
    (hi : SI X T W Φ G fl tg iter it) (ok : BlkOk X.N X.env.scope scope own) (hvv : ∀ i ∈ vs1, i ∈ own.map (·.2)) (hv : ∀ i ∈ tgs t, i ∈ own.map (·.2)) (hv1 : ∀ i ∈ tgs t1, i ∈ vs1)
    (hg : ∀ (s : Shared) (H : Hp) (C : Addr) (cl : List (Str × Addr)) (fp : List Addr), PG (X.blk s H scope (compEnvC scope cl C X.env) fp) tg (gT T.K t))
    (ht : ∀ (s : Shared) (H : Hp) (C : Addr) (cl : List (Str × Addr)) (fp : List Addr), PTs (X.blk s H scope (compEnvC scope cl C X.env) fp) ifs (tT T wF (PV.ev Φ G fl cd)))
    (hi1 : ∀ (s : Shared) (H : Hp) (C : Addr) (cl : List (Str × Addr)) (fp : List Addr), SI (X.blk s H scope (compEnvC scope cl C X.env) fp) T wF Φ G fl tg1 iter1 it1)
    (hg1 : ∀ (s : Shared) (H : Hp) (C : Addr) (cl : List (Str × Addr)) (fp : List Addr), PG (X.blk s H scope (compEnvC scope cl C X.env) fp) tg1 (gT T.K t1))
    (ht1 : ∀ (s : Shared) (H : Hp) (C : Addr) (cl : List (Str × Addr)) (fp : List Addr), PTs (X.blk s H scope (compEnvC scope cl C X.env) fp) ifs1 (tT T wF (PV.ev Φ G fl cd1)))
    (he : ∀ (s : Shared) (H : Hp) (C : Addr) (cl : List (Str × Addr)) (fp : List Addr), SE (X.blk s H scope (compEnvC scope cl C X.env) fp) T wF Φ G fl elt ee)
    (hs : ∀ x, foldedSetIterable iter X.env x = pure x := by intro _; rfl) (hs1 : ∀ env x, foldedSetIterable iter1 env x = pure x := by intro _ _; rfl) :
    SS X T z W Φ G fl (.Assign [.Name y py] (.ListComp elt [⟨tg, iter, ifs, 0⟩, ⟨tg1, iter1, ifs1, 0⟩] scope pos) p) (.asg (.nm i) (.comp2 (own.map (·.2)) vs1 t it cd t1 it1 cd1 ee)) :=
  (ps_setLc2 hc hN hy hl hsw hi ok hvv hg ht hi1 hg1 ht1 he hs hs1).imp fun D σ H h => by
    have h' := tS_asg (t := .nm i) (nz hz) h
    exact tE_comp2 hv hv1 hvv h'
theorem qpar {i j : Nat} {oi oj : Bool} {x y : Str} {a b : Expr} {ea eb : E} {px py pt : Pos} {kt k2 : Nat} {pt2 : Pos} (hzi : z = false ∨ i ≠ 0) (hzj : z = false ∨ j ≠ 0) (hc : X.calm = true) (hN : X.N.Nodup) (hi : X.N[i]? = some x) (hj : X.N[j]? = some y) (hij : i ≠ j)
    (hx : X.env.scope.names.lookup x = some .local) (hy : X.env.scope.names.lookup y = some .local) (ha : SE X T W Φ G fl a ea) (hb : SE X T W Φ G fl b eb) (hw : swappedStores [.Tuple [.Name x px, .Name y py] kt pt] (.Tuple [a, b] k2 pt2) X.env = pure (some [x, y]))
    (hs : swapsWithSole [.Tuple [.Name x px, .Name y py] kt pt] (.Tuple [a, b] k2 pt2) p.line X.env = pure false := by rfl)
    (h1 : starEach [a, b] X.env = (false, eval a X.env) :: starEach [b] X.env := by rfl) (h2 : starEach [b] X.env = (false, eval b X.env) :: starEach [] X.env := by rfl) :
    SS X T z W Φ G fl (.Assign [.Tuple [.Name x px, .Name y py] kt pt] (.Tuple [a, b] k2 pt2) p) (.par i oi ea j oj eb) :=
  (ps_par hc hN hi hj hij hx hy (pa_cons ha (pa_cons hb pa_nil h2) h1) hw hs).imp fun _ _ _ h => tS_par hzi hzj h
/-! ### own lists -/
theorem qapp {i : Nat} {o a : Expr} {e : E} {apos cpos : Pos} (hK : X.K = T.K) (ho : PE X o (tVar i)) (ha : SE X T W Φ G fl a e) (hb : attributeBase o "append" X.env (eval o X.env) = eval o X.env := by rfl)
    (h1 : ((((backTo cpos (starEach [a] X.env)).all fun x => !x.1) && (backToKw cpos (keywordEach [] X.env)).all fun x => x.1.isSome) && decide (([a].length + ([] : List Keyword).length + if ([] : List Keyword).isEmpty = true then 0 else 1) < 30)) = true := by rfl)
    (h2 : (apos.endLine == cpos.line) = true := by rfl) (h3 : starEach [a] X.env = (false, eval a X.env) :: starEach [] X.env := by rfl) (h4 : (backTo cpos (starEach [] X.env)).any (·.1) = false := by rfl)
    (hs : swapsWith (.Call (.Attribute o "append" apos) [a] [] cpos) none p.line X.env = pure false := by rfl) : SS X T z W Φ G fl (.Expr (.Call (.Attribute o "append" apos) [a] [] cpos) p) (.app i e) :=
  (ps_expr (pe_bm PySem.F.plainAttrs_list PySem.F.slot_list_append PySem.F.type_list_append mt_append ho (pa_cons ha pa_nil h3) hb h1 h2 h3 h4) hs).imp fun _ _ _ h => by rw [hK]; exact tS_app h
theorem qext {i : Nat} {o a : Expr} {e : E} {apos cpos : Pos} (hK : X.K = T.K) (ho : PE X o (tVar i)) (ha : SE X T W Φ G fl a e) (hb : attributeBase o "extend" X.env (eval o X.env) = eval o X.env := by rfl)
    (h1 : ((((backTo cpos (starEach [a] X.env)).all fun x => !x.1) && (backToKw cpos (keywordEach [] X.env)).all fun x => x.1.isSome) && decide (([a].length + ([] : List Keyword).length + if ([] : List Keyword).isEmpty = true then 0 else 1) < 30)) = true := by rfl)
    (h2 : (apos.endLine == cpos.line) = true := by rfl) (h3 : starEach [a] X.env = (false, eval a X.env) :: starEach [] X.env := by rfl) (h4 : (backTo cpos (starEach [] X.env)).any (·.1) = false := by rfl)
    (hs : swapsWith (.Call (.Attribute o "extend" apos) [a] [] cpos) none p.line X.env = pure false := by rfl) : SS X T z W Φ G fl (.Expr (.Call (.Attribute o "extend" apos) [a] [] cpos) p) (.ext i e) :=
  (ps_expr (pe_bm PySem.F.plainAttrs_list PySem.F.slot_list_extend PySem.F.type_list_extend mt_extend ho (pa_cons ha pa_nil h3) hb h1 h2 h3 h4) hs).imp fun _ _ _ h => by rw [hK]; exact tS_ext h
theorem qsetI {i : Nat} {o k x : Expr} {ek e : E} {ps : Pos} (ho : PE X o (tVar i)) (hk : SE X T W Φ G fl k ek) (h : SE X T W Φ G fl x e)
    (ha : ∀ v, assign (.Subscript o k ps) X.env v = (do
      let ov ← holding [v] (eval o X.env)
      let iv ← holding [v, ov] (eval k X.env)
      standAt ps
      holding [v, ov, iv] (setItem ov iv v)
      release [v, ov, iv] []) := by intro _; rfl)
    (hs : swapsWithSole [.Subscript o k ps] x p.line X.env = pure false := by rfl) (hw : swappedStores [.Subscript o k ps] x X.env = pure none := by rfl)
    (h1 : (assignEach [.Subscript o k ps] X.env).map (·.2) = [assign (.Subscript o k ps) X.env] := by rfl) : SS X T z W Φ G fl (.Assign [.Subscript o k ps] x p) (.setI i ek e) :=
  (ps_asg h (pg_sub ho hk set_list ha) hs hw h1).imp fun _ _ _ h => tS_setI h
theorem qsetF {o x : Expr} {k : Str} {c : Nat} {e : E} {ps : Pos} (hK : X.K = T.K) (hC : Cls T.K (T.cl c)) (hN : NoAttr T.K (T.cl c) k) (ho : PE X o (tVar 0)) (h : SE X T W Φ G fl x e) (hs : swapsWith x (some (.Attribute o k ps)) p.line X.env = pure false := by rfl) :
    SS X T z W Φ G fl (.Assign [.Attribute o k ps] x p) (.setF c k e) := (ps_fld ho h hs).imp fun _ _ _ h => by rw [hK]; exact tS_setF hC hN h
/-! ### loops -/
theorem qfor {tg iter : Expr} {body : List Stmt} {t : Tg} {it : E} {b : S} (hz : z = false ∨ 0 ∉ tgs t) (ho : ∀ ρ, outE ρ it = ρ) (hl : ∀ i, it ≠ .iOwn i) (hp : PassesOwn (model X.prog X.w) X.A X.env X.xe) (hc : X.calm = true) (hi : SI X T W Φ G fl tg iter it) (hg : PG X tg (gT T.K t)) (hb : SB X T z W Φ G fl body b)
    (hs : ∀ x, foldedSetIterable iter X.env x = pure x := by intro _; rfl) : SS X T z W Φ G fl (.For tg iter body [] p) (.loop t it b) := (ps_for hp hc hi hg hb hs).imp fun _ _ _ h => tS_loop hz ho hl h
theorem qwhile {c : Expr} {body : List Stmt} {e : E} {b : S} (hp : PassesOwn (model X.prog X.w) X.A X.env X.xe) (hc : ST X T W Φ G fl c e) (hb : SB X T z W Φ G fl body b) : SS X T z W Φ G fl (.While c body [] p) (.whl e b) := (ps_while hp hc hb).imp fun _ _ _ h => tS_whl h
/-! ### items and names at once -/
theorem gatnil : PGs X [] (gAT T.K []) := pgs_nil
theorem gatnm {pp : Pos} {i : Nat} {x : Str} {es : List Expr} {ts : List AT} (hN : X.N.Nodup) (hi : X.N[i]? = some x) (hx : Loc X.env.scope x) (hf : X.fn x = true ∨ X.env.scope.names.lookup x = some .local) (h : PGs X es (gAT T.K ts))
    (hs : (assignEach (.Name x pp :: es) X.env).map (·.2) = assign (.Name x pp) X.env :: (assignEach es X.env).map (·.2) := by rfl) : PGs X (.Name x pp :: es) (gAT T.K (.nm i :: ts)) := pgs_cons (pg_name hN hi hx hf) h hs
theorem gatsub {pp p1 : Pos} {i j : Nat} {k : Int} {o : Expr} {es : List Expr} {ts : List AT} (ho : PE X o (tVar i)) (h : PGs X es (gAT T.K ts))
    (ha : ∀ v, assign (.Subscript o (.Constant (.int k) j p1) pp) X.env v = (do
      let ov ← holding [v] (eval o X.env)
      let iv ← holding [v, ov] (eval (.Constant (.int k) j p1) X.env)
      standAt pp
      holding [v, ov, iv] (setItem ov iv v)
      release [v, ov, iv] []) := by intro _; rfl)
    (hs : (assignEach (.Subscript o (.Constant (.int k) j p1) pp :: es) X.env).map (·.2) = assign (.Subscript o (.Constant (.int k) j p1) pp) X.env :: (assignEach es X.env).map (·.2) := by rfl) : PGs X (.Subscript o (.Constant (.int k) j p1) pp :: es) (gAT T.K (.sub i k :: ts)) :=
  pgs_cons (pg_sub ho pe_int set_list ha) h hs
theorem qasgT {es : List Expr} {k : Nat} {pt : Pos} {x : Expr} {ts : List AT} {e : E} (hz : z = false ∨ 0 ∉ atn ts) (hK : X.K = T.K) (hc : X.calm = true) (h : SE X T W Φ G fl x e) (hg : PGs X es (gAT T.K ts)) (hn : (assignEach es X.env).length = ts.length := by rfl) (hst : (assignEach es X.env).findIdx? (·.1) = none := by rfl)
    (hs : swapsWithSole [.Tuple es k pt] x p.line X.env = pure false := by rfl) (hw : swappedStores [.Tuple es k pt] x X.env = pure none := by rfl)
    (h1 : (assignEach [.Tuple es k pt] X.env).map (·.2) = [assign (.Tuple es k pt) X.env] := by rfl) : SS X T z W Φ G fl (.Assign [.Tuple es k pt] x p) (.asgT ts e) :=
  (ps_asg h (pg_tup hc hg hn hst) hs hw h1).imp fun _ _ _ h => by rw [hK]; exact tS_asgT hz h
end
end PV
end

section
set_option Elab.async false
set_option linter.all false
set_option autoImplicit false
set_option maxRecDepth 100000
set_option maxHeartbeats 4000000
/-! PVE: more rules. -/
namespace PV
open PySem PySem.Spec L2

theorem hu65 {k : Nat} {A : Around} (hr : Room k A) : A.units + 65 < cLine := by
  have := hr.un
  omega
section
variable {X : Cx} {T : Sta} {W : WX} {Φ : Fns} {G : Nat → Option Val} {fl : Nat → List Str}
/-! ### constants of the module -/
theorem sgint {x : Str} {i : Int} {p : Pos} (hg : Gl X x) (h : ∃ t, X.mg x = some (.int i t)) (hd : (x == ("__debug__" : Str)) = false := by decide) : SE X T W Φ G fl (.Name x p) (.int i) := by
  obtain ⟨t, ht⟩ := h
  exact (pe_glob (v := .int i) hg ht ⟨t, rfl⟩ hd).imp fun _ _ _ h => tE_C (x := .int i) (fun _ => rfl) h
/-- a tuple of the module -/
structure TupG (T : Sta) (mg : Str → Option Value) (x : Str) (y : Val) : Prop where
  ex : ∃ a, mg x = some (.ref a) ∧ ∀ F, Rep T F y (.ref a)
theorem sgtup {x : Str} {g : Nat} {y : Val} {p : Pos} (hg : Gl X x) (h : TupG T X.mg x y) (hG : G g = some y) (hd : (x == ("__debug__" : Str)) = false := by decide) : SE X T W Φ G fl (.Name x p) (.glob g) := by
  obtain ⟨a, h1, h2⟩ := h.ex
  exact sglob (pe_glob (v := .ref a) hg h1 rfl hd) hG h2
/-- a dict of the module, texts by texts -/
structure DkOk (K : PySem.W.Frag) (w : World) (mg : Str → Option Value) (x : Str) (kvs : List (Str × Str)) : Prop where
  g : mg x = some (.ref (He.ga K x))
  d : ∃ es n, KDict K w (He.ga K x) es n
  at_ : ∀ z y, kvs.lookup z = some y → ∃ t, PySem.W.nsIn K (He.ga K x) z = some (some (.str y t))
theorem dIn_tE {ng : Bool} {kvs : List (Str × Str)} {a : E} {σ : L2.St} {H : Hp} {Q : VK} {r : V → Hp → VK → Prop} (hr : ∀ z y H Q, kvs.lookup z = some y → Q (.bl (!ng)) H → r (.str z) H Q) (h : tE T W (PV.ev Φ G fl (.o1 (.dIn ng kvs) a)) σ H Q) :
    tO T W (opd a (PV.ev Φ G fl a)) σ H fun v H1 => r v H1 Q := tE_o1 h fun {F H x v z Q} e h' le w => by
  cases x <;> try (cases e)
  rename_i s
  simp only [op1] at e
  split at e
  · rename_i y hy
    cases e
    rw [show v = .str s from h']
    exact hr s y H Q hy (w.now le rfl)
  · cases e
theorem sdIn {x : Str} {a : Expr} {ea : E} {ng : Bool} {kvs : List (Str × Str)} {p p2 : Pos} (h : DkOk X.K X.w X.mg x kvs) (hop : ng = false) (hg : Gl X x) (ha : SO X T W Φ G fl a ea) (hd : (x == ("__debug__" : Str)) = false := by decide) : SE X T W Φ G fl (.Compare a [.In] [.Name x p2] p) (.o1 (.dIn ng kvs) ea) := by
  subst hop
  obtain ⟨es, n, D⟩ := h.d
  refine (pe_cmpR (op_in_kd D) ha (pe_glob hg h.g (v := .ref (He.ga X.K x)) rfl hd) rfl).imp fun σ H Q q => ?_
  refine dIn_tE (r := fun v H Q => ∃ (z : Str) (r : Option Value), v = .str z ∧ V.ref (He.ga X.K x) = .ref (He.ga X.K x) ∧ PySem.W.nsIn X.K (He.ga X.K x) z = some r ∧ Q (.bl r.isSome) H) (fun z y H Q hl q => ?_) q
  obtain ⟨t, ht⟩ := h.at_ z y hl
  exact ⟨z, _, rfl, rfl, ht, q⟩
theorem tdIn {x : Str} {a : Expr} {ea : E} {ng : Bool} {kvs : List (Str × Str)} {p p2 : Pos} (h : DkOk X.K X.w X.mg x kvs) (hop : ng = false) (hg : Gl X x) (ha : SO X T W Φ G fl a ea) (hd : (x == ("__debug__" : Str)) = false := by decide) : ST X T W Φ G fl (.Compare a [.In] [.Name x p2] p) (.o1 (.dIn ng kvs) ea) := by
  subst hop
  obtain ⟨es, n, D⟩ := h.d
  refine (pt_cmpR (op_in_kd D) ha (pe_glob hg h.g (v := .ref (He.ga X.K x)) rfl hd) rfl).imp fun σ H Q q => ?_
  refine dIn_tE (r := fun v H Q => ∃ (z : Str) (r : Option Value), v = .str z ∧ V.ref (He.ga X.K x) = .ref (He.ga X.K x) ∧ PySem.W.nsIn X.K (He.ga X.K x) z = some r ∧ Q (.bl r.isSome) H) (fun z y H Q hl q => ?_) (tT_tE q)
  obtain ⟨t, ht⟩ := h.at_ z y hl
  exact ⟨z, _, rfl, rfl, ht, q⟩
theorem tdNotIn {x : Str} {a : Expr} {ea : E} {ng : Bool} {kvs : List (Str × Str)} {p p2 : Pos} (h : DkOk X.K X.w X.mg x kvs) (hop : ng = true) (hg : Gl X x) (ha : SO X T W Φ G fl a ea) (hd : (x == ("__debug__" : Str)) = false := by decide) : ST X T W Φ G fl (.Compare a [.NotIn] [.Name x p2] p) (.o1 (.dIn ng kvs) ea) := by
  subst hop
  obtain ⟨es, n, D⟩ := h.d
  refine (pt_cmpR (op_notIn_kd D) ha (pe_glob hg h.g (v := .ref (He.ga X.K x)) rfl hd) rfl).imp fun σ H Q q => ?_
  refine dIn_tE (r := fun v H Q => ∃ (z : Str) (r : Option Value), v = .str z ∧ V.ref (He.ga X.K x) = .ref (He.ga X.K x) ∧ PySem.W.nsIn X.K (He.ga X.K x) z = some r ∧ Q (.bl (!r.isSome)) H) (fun z y H Q hl q => ?_) (tT_tE q)
  obtain ⟨t, ht⟩ := h.at_ z y hl
  exact ⟨z, _, rfl, rfl, ht, q⟩
theorem sdGet {x : Str} {a : Expr} {ea : E} {kvs : List (Str × Str)} {p p2 : Pos} (h : DkOk X.K X.w X.mg x kvs) (hg : Gl X x) (ha : SO X T W Φ G fl a ea) (hp : PlainIx a := by intro _ _; rfl) (hd : (x == ("__debug__" : Str)) = false := by decide) : SE X T W Φ G fl (.Subscript (.Name x p2) a p) (.o1 (.dGet kvs) ea) := by
  obtain ⟨es, n, D⟩ := h.d
  refine (pe_ix ix_kdict (pe_glob hg h.g (v := .ref (He.ga X.K x)) rfl hd) ha hp).imp fun σ H Q q => ?_
  have q' := tE_o1 q (r := fun v H Q => rIxD X.K X.w (.ref (He.ga X.K x)) v H Q) fun {F H y v z Q} e h' le w => by
    cases y <;> try (cases e)
    rename_i s
    simp only [op1] at e
    split at e
    · rename_i y hy
      cases e
      rw [show v = .str s from h']
      obtain ⟨t, ht⟩ := h.at_ s y hy
      exact ⟨_, s, .str y, rfl, rfl, ⟨es, n, .str y t, D.at_, D.lit, ht, ⟨t, rfl⟩⟩, w.now le rfl⟩
    · cases e
  exact q'
/-! ### isinstance -/
/-- what must be known of one's own classes -/
structure InsOk (T : Sta) : Prop where
  cls : ∀ c, c < T.ncl → Cls T.K (T.cl c) ∧ PySem.W.findIn T.K (.ref (T.cl c)) "__class__" = some (some (.builtin "object.__class__")) ∧ PySem.W.specialIn T.K (.builtin "object.__class__") "__get__" = some (some (.builtin "getset_descriptor.__get__")) ∧
    PySem.W.takesIn T.K (.builtin "object.__class__") = some true ∧ PySem.W.mroIn T.K (T.cl c) (.type "object") = some true
  ty : ∀ c, c < T.ncl → ∀ n ∈ (["int", "bool", "tuple", "list", "str"] : List String), PySem.W.kitOne T.K (.ref (T.cl c)) (.type n) = some false
  own : ∀ c d, c < T.ncl → d < T.ncl → PySem.W.kitOne T.K (.ref (T.cl c)) (.ref (T.cl d)) = some (c == d)
  bas : ∀ d, d < T.ncl → ∀ n ∈ (["NoneType", "int", "bool", "tuple", "list", "str", "set"] : List String), PySem.W.kitOne T.K (.type n) (.ref (T.cl d)) = some false
def tyn : Val → String
  | .non => "NoneType"
  | .bl _ => "bool"
  | .int _ => "int"
  | .str _ => "str"
  | .tup _ _ => "tuple"
  | .st _ => "set"
  | _ => "list"
theorem sqt_ty {K : PySem.W.Frag} {H : Hp} {a : Addr} {xs : List V} (h : SqT K H a xs) : TyX K H (.ref a) (.type "tuple") := by
  rcases h with (h | ⟨o, h⟩) | ⟨_, _, _, h, hc, _⟩
  · exact .base (.tup h)
  · exact .fTuple h
  · exact .kTuple h hc
theorem sql_ty {K : PySem.W.Frag} {H : Hp} {a : Addr} {xs : List V} (h : SqL K H a xs) : TyX K H (.ref a) (.type "list") := by
  rcases h with (h | ⟨o, h⟩) | ⟨_, _, _, h, hc, _⟩
  · exact .base (.lst h)
  · exact .base (.frz h)
  · exact .kList h hc
theorem ty_of {F H : Hp} {x : Val} {v : V} (ok : InsOk T) (le : Le F H) (h : RepB T F H x v) : (∃ c xs, x = .ins c xs ∧ c < T.ncl ∧ TyX T.K H v (.ref (T.cl c))) ∨ ((∀ c xs, x ≠ .ins c xs) ∧ TyX T.K H v (.type (tyn x))) := by
  cases x with
  | non => exact .inr ⟨(fun _ _ e => Val.noConfusion e), by rw [show v = .non from h]; exact .base .non⟩
  | bl b => exact .inr ⟨(fun _ _ e => Val.noConfusion e), by rw [show v = .bl b from h]; exact .base (.bl b)⟩
  | int b => exact .inr ⟨(fun _ _ e => Val.noConfusion e), by rw [show v = .int b from h]; exact .base (.int b)⟩
  | str b => exact .inr ⟨(fun _ _ e => Val.noConfusion e), by rw [show v = .str b from h]; exact .base (.str b)⟩
  | tup d xs => obtain ⟨a, vs, e, ⟨h1, _⟩, _⟩ := h; subst e; exact .inr ⟨(fun _ _ e => Val.noConfusion e), sqt_ty (le.sqt h1)⟩
  | lst xs => obtain ⟨a, vs, e, h1, _⟩ := h; subst e; exact .inr ⟨(fun _ _ e => Val.noConfusion e), .base (.lst h1)⟩
  | st is => obtain ⟨a, S, n, e, h1, _⟩ := h; subst e; exact .inr ⟨(fun _ _ e => Val.noConfusion e), .set (le _ _ h1)⟩
  | scr xs => obtain ⟨a, vs, e, h1, _⟩ := h; subst e; exact .inr ⟨(fun _ _ e => Val.noConfusion e), sql_ty (le.sql h1)⟩
  | ins c xs =>
    obtain ⟨a, dx, vs, e, h1, hl, _⟩ := h
    subst e
    obtain ⟨k1, k2, k3, k4, k5⟩ := ok.cls c hl.2
    exact .inl ⟨c, xs, rfl, hl.2, .base (.ins (le _ _ h1) k1 k2 k3 k4 k5)⟩
theorem isi_ty (n : String) (o : Op1) (hK : X.K = T.K) (ok : InsOk T) (hn : n ∈ (["int", "bool", "tuple", "list", "str"] : List String)) (b : Val → Bool) (ho : ∀ x, op1 o x = some (.val (.bl (b x)))) (hi : ∀ c xs, b (.ins c xs) = false)
    (hb : ∀ x, (∀ c xs, x ≠ .ins c xs) → PySem.W.kitOne T.K (.type (tyn x)) (.type n) = some (b x)) : ∃ r, CallR X (.builtin "isinstance") r ∧ W1 T o fun v => r [v, .ty n] := by
  refine ⟨rIsi T.K, by have := call_isi (X := X); rw [hK] at this; exact this, fun {F H x v z Q} e h le w => ?_⟩
  rw [ho x] at e
  cases e
  rcases ty_of ok le h with ⟨c, xs, rfl, hc, ht⟩ | ⟨hx, ht⟩
  · refine ⟨v, .ty n, _, _, false, rfl, .ty n, ht, ok.ty c hc n hn, ?_⟩
    rw [hi] at w
    exact w.now le rfl
  · exact ⟨v, .ty n, _, _, b x, rfl, .ty n, ht, hb x hx, w.now le rfl⟩
theorem i_int (hK : X.K = T.K) (ok : InsOk T) : ∃ r, CallR X (.builtin "isinstance") r ∧ W1 T .isInt fun v => r [v, .ty "int"] :=
  isi_ty "int" .isInt hK ok (by decide) (fun x => match x with | .int _ => true | .bl _ => true | _ => false) (fun _ => rfl) (fun _ _ => rfl) fun x hx => by
    cases x <;> first | exact absurd rfl (hx _ _) | (dsimp only [tyn]; exact kit_ty (by decide +kernel))
theorem i_bool (hK : X.K = T.K) (ok : InsOk T) : ∃ r, CallR X (.builtin "isinstance") r ∧ W1 T .isBool fun v => r [v, .ty "bool"] :=
  isi_ty "bool" .isBool hK ok (by decide) (fun x => match x with | .bl _ => true | _ => false) (fun _ => rfl) (fun _ _ => rfl) fun x hx => by
    cases x <;> first | exact absurd rfl (hx _ _) | (dsimp only [tyn]; exact kit_ty (by decide +kernel))
theorem i_tuple (hK : X.K = T.K) (ok : InsOk T) : ∃ r, CallR X (.builtin "isinstance") r ∧ W1 T .isTup fun v => r [v, .ty "tuple"] :=
  isi_ty "tuple" .isTup hK ok (by decide) (fun x => match x with | .tup _ _ => true | _ => false) (fun _ => rfl) (fun _ _ => rfl) fun x hx => by
    cases x <;> first | exact absurd rfl (hx _ _) | (dsimp only [tyn]; exact kit_ty (by decide +kernel))
theorem i_list (hK : X.K = T.K) (ok : InsOk T) : ∃ r, CallR X (.builtin "isinstance") r ∧ W1 T .isLst fun v => r [v, .ty "list"] :=
  isi_ty "list" .isLst hK ok (by decide) (fun x => match x with | .lst _ => true | .scr _ => true | _ => false) (fun _ => rfl) (fun _ _ => rfl) fun x hx => by
    cases x <;> first | exact absurd rfl (hx _ _) | (dsimp only [tyn]; exact kit_ty (by decide +kernel))
theorem i_str (hK : X.K = T.K) (ok : InsOk T) : ∃ r, CallR X (.builtin "isinstance") r ∧ W1 T .isStr fun v => r [v, .ty "str"] :=
  isi_ty "str" .isStr hK ok (by decide) (fun x => match x with | .str _ => true | _ => false) (fun _ => rfl) (fun _ _ => rfl) fun x hx => by
    cases x <;> first | exact absurd rfl (hx _ _) | (dsimp only [tyn]; exact kit_ty (by decide +kernel))
theorem i_cls {c : Nat} (hK : X.K = T.K) (ok : InsOk T) (hc : c < T.ncl) : ∃ r, CallR X (.builtin "isinstance") r ∧ W1 T (.isCls c) fun v => r [v, .ref (T.cl c)] := by
  refine ⟨rIsi T.K, by have := call_isi (X := X); rw [hK] at this; exact this, fun {F H x v z Q} e h le w => ?_⟩
  rcases ty_of ok le h with ⟨d, xs, rfl, hd, ht⟩ | ⟨hx, ht⟩
  · cases e
    exact ⟨v, _, _, _, _, rfl, .own _, ht, ok.own d c hd hc, w.now le rfl⟩
  · have e' : op1 (.isCls c) x = some (.val (.bl false)) := by cases x <;> first | rfl | exact absurd rfl (hx _ _)
    rw [e'] at e
    cases e
    refine ⟨v, _, _, _, false, rfl, .own _, ht, ok.bas c hc _ ?_, w.now le rfl⟩
    cases x <;> simp [tyn]
/-! ### texts -/
theorem sjoin {a : Str} {b : Expr} {eb : E} {j : Nat} {p1 apos cpos : Pos} (hK : X.K = T.K) (hb : SO X T W Φ G fl b eb) (hba : attributeBase (.Constant (.str a) j p1) "join" X.env (eval (.Constant (.str a) j p1) X.env) = eval (.Constant (.str a) j p1) X.env := by rfl)
    (h1 : ((((backTo cpos (starEach [b] X.env)).all fun x => !x.1) && (backToKw cpos (keywordEach [] X.env)).all fun x => x.1.isSome) && decide (([b].length + ([] : List Keyword).length + if ([] : List Keyword).isEmpty = true then 0 else 1) < 30)) = true := by rfl)
    (h2 : (apos.endLine == cpos.line) = true := by rfl) (h3 : starEach [b] X.env = (false, eval b X.env) :: starEach [] X.env := by rfl) (h4 : (backTo cpos (starEach [] X.env)).any (·.1) = false := by rfl) :
    SE X T W Φ G fl (.Call (.Attribute (.Constant (.str a) j p1) "join" apos) [b] [] cpos) (.joinS a eb) := by
  refine (pe_bm PySem.F.plainAttrs_str PySem.F.slot_str_join PySem.F.type_str_join mt_join pe_str (pa_cons hb pa_nil h3) hba h1 h2 h3 h4).imp fun σ H Q q => ?_
  refine ⟨rfl, ?_⟩
  obtain ⟨F, ρ, R, P⟩ := q
  refine ⟨F, ρ, R, (Post.bnd (m := opd eb (PV.ev Φ G fl eb) ρ) P).mono fun o ρ1 F1 H1 s ⟨_, k⟩ v hv => ?_⟩
  cases e : o.get ρ1 with
  | none => rw [e] at k; exact k.elim
  | some y =>
    rw [e] at k
    have rb := RepO.get s.en hv e
    cases y with
    | lst xs =>
      obtain ⟨l, vs, ev, hl, r⟩ := rb
      dsimp only at k
      cases es : strsOf xs with
      | none => rw [es] at k; exact k.elim
      | some ys =>
        rw [es] at k
        dsimp only at k
        unfold joinV at k
        split at k
        · rename_i zs hz
          split at hz
          · rename_i hlen
            cases hz
            rw [strs_of es] at r
            rw [Reps.strs r] at hl
            refine ⟨a, l, ys, rfl, by rw [ev], .inl (SqL.of hl), Nat.le_trans hlen (by decide), ?_⟩
            rw [TL.join_eq]
            exact k F1 H1 (Ste.refl s.en) _ rfl
          · cases hz
        · exact k.elim
    | _ => exact k.elim
theorem str_app_len (a b : Str) : (a ++ b).length = a.length + b.length := by
  show (a.cps ++ b.cps).size = _
  rw [Array.size_append]
  rfl
/-- a part of an f-string -/
def SF (X : Cx) (T : Sta) (W : WX) (Φ : Fns) (G : Nat → Option Val) (fl : Nat → List Str) (xs : List Expr) (e : E) : Prop := ∃ ts, PJ X xs ts ∧ xs.length = ts.length ∧ ∀ (k : Nat) (acc : Str) (σ : L2.St) (H : Hp) (Q : Str → Hp → Prop), k + ts.length ≤ 60 → acc.length ≤ 1000 * k →
  (∃ F ρ, REnv T F H σ ρ ∧ Post T W F H σ ρ (PV.ev Φ G fl e ρ) fun r _ F' H' => ∃ xs ys, r = .fresh xs ∧ strsOf xs = some ys ∧ Q (ys.foldl (· ++ ·) acc) H') → tJs ts acc σ H Q
theorem fnil : SF X T W Φ G fl [] .nil := ⟨[], .nil, rfl, fun k acc σ H Q _ _ ⟨F, ρ, R, P⟩ => by
  obtain ⟨xs, ys, e, e2, q⟩ := P F H (Ste.refl R)
  cases e
  cases e2
  exact q⟩
theorem foldl_app : ∀ (ys : List Str) (a b : Str), ys.foldl (· ++ ·) (a ++ b) = ys.foldl (· ++ ·) (a ++ b) := fun _ _ _ => rfl
theorem strs_cons {t : Str} {xs : List Val} {ys : List Str} (h : strsOf (.str t :: xs) = some ys) : ∃ zs, strsOf xs = some zs ∧ ys = t :: zs := by
  simp only [strsOf] at h
  split at h
  · rename_i zs e
    cases h
    exact ⟨zs, e, rfl⟩
  · cases h
theorem fgo {x : Expr} {xs : List Expr} {e es : E} {te : TE} (he : PE X x te) (hs : SF X T W Φ G fl xs es)
    (hte : ∀ (acc : Str) (σ : L2.St) (H : Hp) (Q : Str → Hp → Prop), (∃ F ρ, REnv T F H σ ρ ∧ Post T W F H σ ρ (PV.ev Φ G fl e ρ) fun r _ F' H' => ∃ t, fmt1 r.frz = some t ∧ t.length ≤ 1000 ∧ Q t H') → te σ H fun v H1 => ∃ y : Str, v = .str y ∧ y.length ≤ 1000 ∧ Q y H1)
    (hm : ∀ (σ : L2.St) (H : Hp) (Q Q' : VK), te σ H Q → (∀ v H1, Q v H1 → Q' v H1) → te σ H Q') :
    SF X T W Φ G fl (x :: xs) (.fcons e es) := by
  obtain ⟨ts, pj, hl, h⟩ := hs
  have hmono : ∀ {σ : L2.St} {H : Hp} {Q Q' : VK}, te σ H Q → (∀ v H1, Q v H1 → Q' v H1) → te σ H Q' := fun h1 h2 => hm _ _ _ _ h1 h2
  refine ⟨te :: ts, .cons he pj, by rw [List.length_cons, List.length_cons, hl], fun k acc σ H Q hk ha ⟨F, ρ, R, P⟩ => ?_⟩
  rw [List.length_cons] at hk
  have go := hte acc σ H (fun t H1 => ∃ F1 ρ1, REnv T F1 H1 σ ρ1 ∧ Post T W F1 H1 σ ρ1 (PV.ev Φ G fl es ρ1) fun r _ F' H' => ∃ xs ys, r = .fresh xs ∧ strsOf xs = some ys ∧ Q (ys.foldl (· ++ ·) (acc ++ t)) H') ⟨F, ρ, R, (Post.bnd (m := PV.ev Φ G fl e ρ) P).mono fun r ρ1 F1 H1 s ⟨_, q⟩ => by
    cases ef : fmt1 r.frz with
    | none => rw [ef] at q; exact q.elim
    | some t =>
      rw [ef] at q
      dsimp only at q
      split at q
      · rename_i hlen
        refine ⟨t, rfl, hlen, F1, ρ1, s.en, (Post.bnd (m := PV.ev Φ G fl es ρ1) q).mono fun rs ρ2 F2 H2 s2 ⟨_, q2⟩ => ?_⟩
        cases rs with
        | val _ => exact q2.elim
        | fresh zs =>
          obtain ⟨xs', ys, e1, e2, q3⟩ := q2 F2 H2 (Ste.refl s2.en)
          cases e1
          obtain ⟨us, e3, e4⟩ := strs_cons e2
          subst e4
          exact ⟨zs, us, rfl, e3, q3⟩
      · exact q.elim⟩
  exact hmono go fun v H1 ⟨y, ev, hy, q⟩ => by
    have hlen : (acc ++ y).length = acc.length + y.length := str_app_len acc y
    refine ⟨y, ev, ?_, h (k + 1) (acc ++ y) σ H1 Q (by omega) (by rw [hlen]; omega) q⟩
    rw [hlen]
    exact sz100 (by omega)
theorem fcons {y : Str} {j : Nat} {p : Pos} {xs : List Expr} {es : E} (hs : SF X T W Φ G fl xs es) : SF X T W Φ G fl (.Constant (.str y) j p :: xs) (.fcons (.str y) es) := by
  refine fgo pe_str hs (fun acc σ H Q q => ?_) fun σ H Q Q' h k => k _ _ h
  obtain ⟨F, ρ, R, P⟩ := q
  obtain ⟨t, e, hl, q⟩ := P F H (Ste.refl R)
  cases e
  exact ⟨_, rfl, hl, q⟩
theorem fconsV {x : Expr} {e : E} {p : Pos} {xs : List Expr} {es : E} (he : SE X T W Φ G fl x e) (hs : SF X T W Φ G fl xs es) : SF X T W Φ G fl (.FormattedValue x (-1) none p :: xs) (.fcons e es) :=
  fgo (pe_fmt he) hs (fun acc σ H Q ⟨F, ρ, R, P⟩ => by
    refine ⟨F, ρ, R, P.mono fun r ρ1 F1 H1 s ⟨t, e, hl, q⟩ v hv => ?_⟩
    cases r with
    | fresh _ => cases e
    | val z =>
      cases z with
      | str y => cases e; exact .inl ⟨_, hv, sz100 (by omega), _, rfl, hl, q⟩
      | int i =>
        simp only [RV.frz, fmt1] at e
        split at e
        · rename_i hi
          cases e
          exact .inr ⟨i, hv, hi, _, rfl, hl, q⟩
        · cases e
      | _ => cases e) fun σ H Q Q' h k => by
    obtain ⟨F, ρ, R, P⟩ := h
    refine ⟨F, ρ, R, P.mono fun r ρ1 F1 H1 s g v hv => ?_⟩
    rcases g v hv with ⟨y, e, hz, q⟩ | ⟨i, e, hz, q⟩
    · exact .inl ⟨y, e, hz, k _ _ q⟩
    · exact .inr ⟨i, e, hz, k _ _ q⟩
theorem sfstr {v1 v2 : Expr} {rest : List Expr} {es : E} {p : Pos} (h : SF X T W Φ G fl (v1 :: v2 :: rest) es) (hn : rest.length ≤ 50 := by decide) : SE X T W Φ G fl (.JoinedStr (v1 :: v2 :: rest) p) (.fstr es) := by
  obtain ⟨ts, pj, hl, g⟩ := h
  refine (pe_joined pj).imp fun σ H Q q => ?_
  obtain ⟨F, ρ, R, P⟩ := q
  rw [List.length_cons, List.length_cons] at hl
  refine g 0 Str.empty σ H _ (by omega) (Nat.zero_le _) ⟨F, ρ, R, (Post.bnd (m := PV.ev Φ G fl es ρ) P).mono fun r ρ1 F1 H1 s ⟨_, k⟩ => ?_⟩
  cases r with
  | val _ => exact k.elim
  | fresh xs =>
    dsimp only at k
    cases es' : strsOf xs with
    | none => rw [es'] at k; exact k.elim
    | some ys =>
      rw [es'] at k
      exact ⟨xs, ys, rfl, es', k F1 H1 (Ste.refl s.en) _ rfl⟩
/-! ### t.count(x), t made by a display -/
def tCnt (K : PySem.W.Frag) (to te : TE) : TE := fun σ H Q => to σ H fun x H1 => ∃ (a : Addr) (ob : Obj) (vs : List V), x = .ref a ∧ H1 a = some (.frz ob (.tup vs)) ∧ ob.dict = none ∧ tCons te tNil σ H1 fun ys H2 =>
  ∃ y, ys = [y] ∧ ∃ (d : PyData) (ds : List PyData), H2 a = some (.frz ob (.tup vs)) ∧ Dp K H2 y d ∧ DpAll K H2 vs ds ∧ PyData.plainAll ds = true ∧ d.plain = true ∧ d.depth < 64 ∧ Q (.int ((ds.countP fun z => PyData.eqv z d : Nat) : Int)) H2
theorem pe_cnt {o e : Expr} {to te : TE} {apos cpos : Pos} (hu : X.A.units + 65 < cLine) (ho : PE X o to) (he : PE X e te) (hbase : attributeBase o "count" X.env (eval o X.env) = eval o X.env := by rfl)
    (hfew : ((((backTo cpos (starEach [e] X.env)).all fun x => !x.1) && (backToKw cpos (keywordEach [] X.env)).all fun x => x.1.isSome) && decide (([e].length + ([] : List Keyword).length + if ([] : List Keyword).isEmpty = true then 0 else 1) < 30)) = true := by rfl)
    (hline : (apos.endLine == cpos.line) = true := by rfl) (hs : starEach [e] X.env = (false, eval e X.env) :: starEach [] X.env := by rfl) (hplain : (backTo cpos (starEach [] X.env)).any (·.1) = false := by rfl) :
    PE X (.Call (.Attribute o "count" apos) [e] [] cpos) (tCnt X.K to te) := by
  refine ⟨fun pins s σ H Q I h => ?_⟩
  refine wpAny_Call_method_late hbase hfew hline rfl (thn (ho.run pins s σ H _ I h) fun v s1 ⟨x, H1, I1, r1, a, ob, vs, ex, ea, hd, q1⟩ => ?_)
  subst ex
  cases r1
  obtain ⟨hget, _, its, rv, ob', hg', hc', _⟩ := (show ObjOk X.prog X.w H1 s1.heap a (.frz ob (.tup vs)) from I1.hok a _ ea)
  rw [hget] at hg'
  cases hg'
  refine ⟨"tuple", "tuple.count", PySem.F.plainAttrs_tuple, PySem.F.slot_tuple_count, PySem.F.type_tuple_count, ⟨ob, hget, hc'⟩, fun a' e' => by cases e'; exact ⟨ob, hget, hd⟩, ?_⟩
  have hA := (pa_cons he pa_nil hs).run cpos pins s1 σ H1 _ I1 q1
  rw [hs] at hA ⊢
  refine Calls.callWith_builtin (by show (false || (backTo cpos (starEach [] X.env)).any (·.1)) = false; rw [hplain] <;> rfl) (Calls.evalArgs_plain ?_)
  refine thn hA fun us s2 ⟨ys, H2, I2, r2, y, ey, d, ds, ea2, hdy, hds, pl, pd, dd, q2⟩ => ?_
  subst ey
  cases r2 with
  | cons ry rn =>
    cases rn
    obtain ⟨hget2, _, its2, rv2, it2⟩ := (show ObjOk X.prog X.w H2 s2.heap a (.frz ob (.tup vs)) from I2.hok a _ ea2)
    obtain ⟨as, rs⟩ := Dp.readsAll I2 ds vs its2 hds rv2
    obtain ⟨bs, rx⟩ := Dp.reads I2 d y _ hdy ry
    refine SeqAt.count_tuple_data (vs := its2.toArray) it2 (by simpa using rs) rx pl pd ?_ ⟨.int _, H2, I2.tok _, ⟨_, rfl⟩, q2⟩
    have : min (PyData.depthAll ds) d.depth ≤ d.depth := Nat.min_le_right _ _
    omega
theorem scount {a b : Expr} {ea eb : E} {apos cpos : Pos} (hK : X.K = T.K) (hu : X.A.units + 65 < cLine) (ha : SE X T W Φ G fl a ea) (hb : SE X T W Φ G fl b eb) (hbase : attributeBase a "count" X.env (eval a X.env) = eval a X.env := by rfl)
    (hfew : ((((backTo cpos (starEach [b] X.env)).all fun x => !x.1) && (backToKw cpos (keywordEach [] X.env)).all fun x => x.1.isSome) && decide (([b].length + ([] : List Keyword).length + if ([] : List Keyword).isEmpty = true then 0 else 1) < 30)) = true := by rfl)
    (hline : (apos.endLine == cpos.line) = true := by rfl) (hs : starEach [b] X.env = (false, eval b X.env) :: starEach [] X.env := by rfl) (hplain : (backTo cpos (starEach [] X.env)).any (·.1) = false := by rfl) :
    SE X T W Φ G fl (.Call (.Attribute a "count" apos) [b] [] cpos) (.count ea eb) := by
  refine (pe_cnt hu ha hb hbase hfew hline hs hplain).imp fun σ H Q q => ?_
  rw [hK]
  obtain ⟨F, ρ, R, P⟩ := q
  refine ⟨F, ρ, R, (Post.bnd (m := PV.ev Φ G fl ea ρ) P).mono fun r ρ1 F1 H1 s ⟨_, k⟩ v hv => ?_⟩
  cases r with
  | fresh _ => exact k.elim
  | val x =>
    cases x with
    | tup d xs =>
      cases d with
      | false => exact k.elim
      | true =>
        obtain ⟨a, vs, ev, ⟨_, h2⟩, rs⟩ := hv
        obtain ⟨ob, ho, hd⟩ := h2 rfl
        refine ⟨a, ob, vs, ev, s.en.le _ _ ho, hd, F1, ρ1, s.en, (Post.seq (m := PV.ev Φ G fl eb ρ1) k).mono fun r' ρ2 F2 H2 s2 k2 u hu => ?_⟩
        obtain ⟨F3, s3, le, rp⟩ := RepR.frz s.en s2 hu
        have q := k2 F3 H2 s3
        cases ec : countV r'.frz xs with
        | none => rw [ec] at q; exact q.elim
        | some n =>
          rw [ec] at q
          unfold countV at ec
          split at ec
          · rename_i d ds h1 h2
            split at ec
            · rename_i hp
              cases ec
              simp only [Bool.and_eq_true, decide_eq_true_eq] at hp
              refine ⟨u, rfl, d, ds, s3.en.le _ _ (s3.tr.ff _ _ ho), Rep.dp (Rep.mono s3.en.le _ _ rp) h1, Reps.dp (Reps.mono s3.en.le _ _ (Reps.mono s3.tr.ff _ _ rs)) h2, hp.1.2, hp.1.1, hp.2, ?_⟩
              exact q F3 H2 (Ste.refl s3.en) _ rfl
            · cases ec
          · cases ec
    | _ => exact k.elim
end
end PV
end

section
set_option Elab.async false
set_option linter.all false
set_option autoImplicit false
set_option maxRecDepth 100000
set_option maxHeartbeats 4000000
/-! PVF: enumerate over a tuple. -/
namespace PV
open PySem PySem.Spec L2
set_option maxHeartbeats 1000000 in
theorem meets_enumerate_new1B {v : Value} {o : Obj} {H : Heap → Prop} (B : Begins v o H) :
    Meets (Builtin.«enumerate.__new__» ⟨[.type "enumerate", v], []⟩) (fun _ R s => H s.heap ∧
      R (.ok (.ret (.ref (s.heap.push o).objs.size))) { s with heap := (s.heap.push o).push { cls := .type "enumerate", data := .fields #[.none, .bool false, .ref s.heap.objs.size, rawInt 0, .none, .none] } }) :=
  .of_wp fun prog w A R s h => by
    obtain ⟨hp, g, d, tk, os⟩ := s; obtain ⟨h1, h⟩ := h
    have hsub := sub_enumerate
    have q1 : ∀ {A' : Around} {E : Value → Shared → Prop} {Q : Value → Shared → Prop}, Q (.ref hp.objs.size) ⟨hp.push o, g, d, tk, os⟩ → wpAny (model prog w) A' (pyIter v) Q E ⟨hp, g, d, tk, os⟩ :=
      fun q => B.iter prog w _ _ ⟨hp, g, d, tk, os⟩ _ h1 q
    wp_walk using q1
    refine wpAny_stack_any fun st => wpAny_pure ?_
    split
    · rename_i c _ _ _ _ _
      cases (c == Value.type "enumerate")
      · wp_walk using q1
        exact ⟨_, rfl, h⟩
      · wp_walk using q1
        exact ⟨_, rfl, h⟩
    · wp_walk using q1
      exact ⟨_, rfl, h⟩
section
variable {prog : Program} {w : World} {A : Around} {E : Value → Shared → Prop} {s : Shared}
theorem call_enumerate1 {v : Value} {o : Obj} {H : Heap → Prop} {Q : Value → Shared → Prop} (B : Begins v o H) (h1 : H s.heap) (hnf : o.isFreed = false)
    (h : ∀ h', IsEnum h' (s.heap.objs.size + 1) s.heap.objs.size 0 .none → h'.get? s.heap.objs.size = some o → h'.objs.size = s.heap.objs.size + 2 →
      (∀ b o, s.heap.get? b = some o → h'.get? b = some o) → Q (.ref (s.heap.objs.size + 1)) { s with heap := h' }) :
    wpAny (model prog w) A (call (.type "enumerate") [v]) Q E s := by
  refine callType_new F.called_enumerate (by decide) (F.typeCall_enumerate_1 _) (F.newCall_enumerate_1 _) (fun obj => F.args_object_init_2 obj _) F.entry_enumerate_new
    (meets_enumerate_new1B B) ⟨h1, ?_⟩
  have hz : (s.heap.push o).objs.size = s.heap.objs.size + 1 := Heap.size_push ..
  show _ ∧ _
  rw [hz]
  have he : IsEnum ((s.heap.push o).push { cls := .type "enumerate", data := .fields #[.none, .bool false, .ref s.heap.objs.size, rawInt 0, .none, .none] }) (s.heap.objs.size + 1) s.heap.objs.size 0 .none := by
    have := Heap.get?_push_size (s.heap.push o) (o := { cls := .type "enumerate", data := .fields #[.none, .bool false, .ref s.heap.objs.size, rawInt 0, .none, .none] }) rfl
    rw [hz] at this; exact this
  exact ⟨⟨_, he, rfl⟩, h _ he (Heap.get?_push_of_some _ (Heap.get?_push_size _ B.free)) (by rw [Heap.size_push, hz]) fun b o x => Heap.get?_push_of_some _ (Heap.get?_push_of_some _ x)⟩
end
def IteT (K : PySem.W.Frag) (a : Addr) (n : Nat) : It :=
  ⟨fun i H => ∃ (xs : List V) (x : V), (SqT K H a xs ∧ xs.length = n) ∧ xs[i]? = some x, fun i H v H' => ∃ T x, v = .ref T ∧ H T = none ∧ H' = upd H T (.tup [.int (i : Nat), x]) ∧ ∀ xs, SqT K H a xs → xs[i]? = some x, fun i H => ∃ xs : List V, (SqT K H a xs ∧ xs.length = n) ∧ n ≤ i⟩
theorem turn_enumT {P : Program} {w : World} {K : PySem.W.Frag} {elts : List Expr} {kk : Nat} {tpos : Pos} (a e it : Addr) (n : Nat) :
    Turn P w K (.Tuple elts kk tpos) (IteT K a n) [e, it] e (fun i h => (∃ old, IsEnum h e it ((i : Nat) : Int) old) ∧ h.IsTupleIter it a i ∧ e ≠ it ∧ a ≠ it ∧ e ≠ a ∧ i ≤ n) where
  mem := by simp
  obj := fun i h st b hb => by
    obtain ⟨⟨old, he⟩, ⟨o, ho, hc, hd⟩, _⟩ := st
    have e' : b = e ∨ b = it := by simpa using hb
    rcases e' with z | z
    · rw [z]; exact ⟨_, he, fun v q => nomatch q⟩
    · rw [z]; exact ⟨o, ho, fun v q => by rw [hd] at q; cases q⟩
  keep := fun i h h' st k => let ⟨⟨old, he⟩, hi, hne⟩ := st; ⟨⟨old, k e (by simp) _ he⟩, hi.at fun o q => k it (by simp) o q, hne⟩
  item := by
    intro X hP hw hK hc i pins s σ H E I hf st hg
    subst hP hw hK
    obtain ⟨⟨old, he⟩, hit, hne, hai, hea, hin⟩ := st
    obtain ⟨xs, x, ⟨hq, hxn⟩, hx⟩ := hg
    obtain ⟨its, rv, p, hz⟩ := I.tuple hq
    obtain ⟨u, hu, ru⟩ := rv.get hx
    have hel : e < s.heap.objs.size := Heap.lt_size he
    have hil : it < s.heap.objs.size := by obtain ⟨_, q, _⟩ := hit; exact Heap.lt_size q
    have hlt : i < its.toArray.size := by have := (List.getElem?_eq_some_iff.mp hu).1; simpa using this
    refine wpAny_pyNext_enum_itemD (Draws.tuple (A := X.A.in1) (I.ok.hd hc) it a hai its.toArray) he ⟨hit, p⟩ hlt hne (by simp [hne, hea]) fun x' h' tk hPx ho hst' hT hsz hk => ?_
    have ex : x' = u := by
      have e1 : its.toArray[i]? = some x' := hPx
      have e2 : its.toArray[i]? = some u := by simpa using hu
      rw [e1] at e2
      exact Option.some.inj e2
    subst ex
    refine ⟨_, rfl, wpAny_letOwnedTupleGo_enum (s := { s with heap := h', toks := tk + 1 }) ho fun h'' he' sb => ?_⟩
    have hT2 : h''.get? s.heap.objs.size = some { cls := .type "tuple", data := .seq #[.int i tk, x'] } := (sb.2 _ (Nat.ne_of_gt hel)).trans hT
    have new : ObjOk X.prog X.w (upd H s.heap.objs.size (.tup [.int (i : Nat), x])) h'' s.heap.objs.size (.tup [.int (i : Nat), x]) :=
      ⟨by show 2 ≤ sizeLine; decide, [.int i tk, x'], .cons ⟨_, rfl⟩ (.cons ru .nil), ⟨_, hT2, rfl, _, rfl⟩⟩
    have I1 : Inv X pins σ (upd H s.heap.objs.size (.tup [.int (i : Nat), x])) { s with heap := h'', toks := tk + 1 } :=
      I.turnedNew (ch := [e, it]) (fun b ob hb q => (sb.2 b (fun z => hb (by simp [z]))).trans (hk b ob (fun z => hb (by simp [z])) (fun z => hb (by simp [z])) q)) hf (Nat.le_refl _) new
    refine ⟨.ref s.heap.objs.size, _, I1, rfl, ⟨_, x, rfl, I.hok.fresh (Nat.le_refl _), rfl, fun ys hy => by rw [I.tuple_inj hy hq]; exact hx⟩, ⟨⟨x', ?_⟩, hst'.1.at fun o q => (sb.2 it (Ne.symm hne)).trans q, hne, hai, hea, by have := (List.getElem?_eq_some_iff.mp hx).1; omega⟩, fun b hb => ?_⟩
    · have e1 : ((i + 1 : Nat) : Int) = (i : Int) + 1 := by omega
      rw [e1]; exact he'
    · have hb' : b < s.heap.objs.size := by
        have e' : b = e ∨ b = it := by simpa using hb
        rcases e' with z | z
        · rw [z]; exact hel
        · rw [z]; exact hil
      rw [upd_ne (Nat.ne_of_lt hb')]
      exact (hf b hb).1
  done := by
    intro X hP hw hK hc i pins s σ H E I hf st hg
    subst hP hw hK
    obtain ⟨⟨old, he⟩, hit, hne, hai, hea, hin⟩ := st
    obtain ⟨xs, ⟨hq, hxn⟩, hx⟩ := hg
    obtain ⟨its, rv, p, hz⟩ := I.tuple hq
    obtain ⟨f0, f1, f2, f3, f4, f5⟩ := hf it (by simp)
    have hl := rv.length
    have ei : i = its.toArray.size := by simp; omega
    refine wpAny_pyNext_enum_endD (Draws.tuple (A := X.A.in1) (I.ok.hd hc) it a hai its.toArray) he (by rw [← ei]; exact ⟨hit, p⟩) fun h' eb => ⟨rfl, I.turned (t' := s.toks) (fun b o hb q => eb b o hb q) f0 f1 f3 f4 f5⟩
  self := fun A i s Q E st h => let ⟨⟨_, he⟩, _⟩ := st; wpAny_pyIter_enum he h
/-- enumerate(e), a list or a tuple -/
def iEnumA (K : PySem.W.Frag) (te : TE) : TI := fun σ H R => tCons te tNil σ H fun vs H1 => ∃ (a : Addr) (xs : List V), vs = [.ref a] ∧ ((SqL K H1 a xs ∧ R (Ite K a) H1) ∨ (SqT K H1 a xs ∧ R (IteT K a xs.length) H1))
theorem pi_enumA {X : Cx} {e : Expr} {te : TE} {p pos tpos : Pos} {elts : List Expr} {kk : Nat} (hg : Gl X "enumerate") (hm : X.mg "enumerate" = none) (he : PE X e te) (hs : starEach [e] X.env = (false, eval e X.env) :: starEach [] X.env := by rfl) :
    PI X (.Tuple elts kk tpos) (.Call (.Name "enumerate" p) [e] [] pos) (iEnumA X.K te) := by
  refine ⟨fun pins s σ H R I h => ?_⟩
  have ha : PA X [e] (tCons te tNil) := pa_cons he pa_nil hs
  refine PyProof.Rows.Call_ (ld_blt I hg hm PyProof.Rows.boot_enumerate (PyProof.Rows.callWith_type1 (thn (ha.run pos pins s σ H _ I h) fun us s1 ⟨vs, H1, I1, r1, a, xs, ex, q⟩ => ?_) hs rfl))
  subst ex
  cases r1 with
  | cons r rr =>
    cases rr
    cases r
    rcases q with ⟨hq, q⟩ | ⟨hq, q⟩
    · obtain ⟨its, rv, p', hz⟩ := I1.list hq
      refine call_enumerate_list p'.isList fun h' he hit hsz hk => wpAny_pyIter_enum he ?_
      have I2 : Inv X pins σ H1 { s1 with heap := h' } := I1.kept (t' := s1.toks) hk
      refine ⟨s1.heap.objs.size + 1, [s1.heap.objs.size + 1, s1.heap.objs.size], _, _, H1, rfl, I2, turn_enum a (s1.heap.objs.size + 1) s1.heap.objs.size, ⟨⟨.none, he⟩, hit, Nat.succ_ne_self _⟩, fun b hb => ?_, q⟩
      have e' : b = s1.heap.objs.size + 1 ∨ b = s1.heap.objs.size := by simpa using hb
      have hle : s1.heap.objs.size ≤ b := by
        rcases e' with z | z
        · rw [z]; exact Nat.le_add_right _ _
        · rw [z]; exact Nat.le_refl _
      exact I1.fpOk hle (I1.hok.fresh hle)
    · obtain ⟨its, rv, p', hz⟩ := I1.tuple hq
      have al : a < s1.heap.objs.size := by
        obtain ⟨o, ho, _⟩ := p'
        exact Heap.lt_size ho
      refine call_enumerate1 (begins_tuple a its.toArray) p' rfl fun h' he hit hsz hk => wpAny_pyIter_enum he ?_
      have I2 : Inv X pins σ H1 { s1 with heap := h' } := I1.kept (t' := s1.toks) hk
      refine ⟨s1.heap.objs.size + 1, [s1.heap.objs.size + 1, s1.heap.objs.size], _, _, H1, rfl, I2, turn_enumT a (s1.heap.objs.size + 1) s1.heap.objs.size xs.length, ⟨⟨.none, he⟩, ⟨_, hit, rfl, rfl⟩, Nat.succ_ne_self _, Nat.ne_of_lt al, Nat.ne_of_gt (Nat.lt_succ_of_lt al), Nat.zero_le _⟩, fun b hb => ?_, q⟩
      have e' : b = s1.heap.objs.size + 1 ∨ b = s1.heap.objs.size := by simpa using hb
      have hle : s1.heap.objs.size ≤ b := by
        rcases e' with z | z
        · rw [z]; exact Nat.le_add_right _ _
        · rw [z]; exact Nat.le_refl _
      exact I1.fpOk hle (I1.hok.fresh hle)
theorem enumV_len : ∀ (i : Nat) (xs : List Val), (enumV i xs).length = xs.length
  | _, [] => rfl
  | i, x :: xs => by show (enumV (i + 1) xs).length + 1 = _; rw [enumV_len (i + 1) xs]; rfl
theorem enumV_get : ∀ (k : Nat) (xs : List Val) (i : Nat) (y : Val), (enumV k xs)[i]? = some y → ∃ x, xs[i]? = some x ∧ y = .tup false [.int ((k + i : Nat) : Int), x]
  | k, [], i, y, h => by simp [enumV] at h
  | k, x :: xs, 0, y, h => by
    have e : Val.tup false [.int (k : Nat), x] = y := by simpa [enumV] using h
    exact ⟨x, rfl, e.symm⟩
  | k, x :: xs, i + 1, y, h => by
    have h' : (enumV (k + 1) xs)[i]? = some y := by simpa [enumV] using h
    obtain ⟨z, e1, e2⟩ := enumV_get (k + 1) xs i y h'
    exact ⟨z, by simpa using e1, by rw [e2]; congr 3; omega⟩
section
variable {X : Cx} {T : Sta} {W : WX} {σ : L2.St} {H : Hp} {R : It → Hp → Prop} {Φ : Fns} {G : Nat → Option Val} {fl : Nat → List Str}
theorem walks_enumL {F : Hp} {O : Addr → Prop} {a : Addr} {xs : List Val} {vs : List V} (h : ∀ F2 H2, Tr F H O F2 H2 → SqL T.K H2 a vs) (r : Reps T F xs vs) : Walks T F H O (enumV 0 xs) (Ite T.K a) where
  stop := fun F2 H2 i t hi => ⟨vs, h F2 H2 t, by rw [r.len]; rw [enumV_len] at hi; exact hi⟩
  go := fun F2 H2 i x t hx => by
    obtain ⟨y, e, _⟩ := enumV_get 0 xs i x hx
    obtain ⟨v, e, _⟩ := r.get e
    exact ⟨vs, v, h F2 H2 t, e⟩
  yld := fun F2 H2 i x v H3 t hx ⟨p, w, ev, hp, eH, k⟩ => by
    obtain ⟨y, e, ex⟩ := enumV_get 0 xs i x hx
    obtain ⟨v', e', r'⟩ := r.get e
    have := k vs (h F2 H2 t)
    rw [e'] at this
    cases this
    subst eH ev ex
    refine ⟨upd F2 p (.tup [.int (i : Nat), w]), Tr.new t.fh hp, p, _, rfl, ⟨.inl (.inl upd_same), fun z => nomatch z⟩, _, _, rfl, ?_, _, _, rfl, (r'.mono t.ff).mono (Le.new (t.fh.none_of hp)), rfl⟩
    show V.int ((i : Nat) : Int) = V.int ((0 + i : Nat) : Int)
    rw [Nat.zero_add]
theorem walks_enumT {F : Hp} {O : Addr → Prop} {a : Addr} {xs : List Val} {vs : List V} (h : ∀ F2 H2, Tr F H O F2 H2 → SqT T.K H2 a vs) (r : Reps T F xs vs) : Walks T F H O (enumV 0 xs) (IteT T.K a vs.length) where
  stop := fun F2 H2 i t hi => ⟨vs, ⟨h F2 H2 t, rfl⟩, by rw [r.len]; rw [enumV_len] at hi; exact hi⟩
  go := fun F2 H2 i x t hx => by
    obtain ⟨y, e, _⟩ := enumV_get 0 xs i x hx
    obtain ⟨v, e, _⟩ := r.get e
    exact ⟨vs, v, ⟨h F2 H2 t, rfl⟩, e⟩
  yld := fun F2 H2 i x v H3 t hx ⟨p, w, ev, hp, eH, k⟩ => by
    obtain ⟨y, e, ex⟩ := enumV_get 0 xs i x hx
    obtain ⟨v', e', r'⟩ := r.get e
    have := k vs (h F2 H2 t)
    rw [e'] at this
    cases this
    subst eH ev ex
    refine ⟨upd F2 p (.tup [.int (i : Nat), w]), Tr.new t.fh hp, p, _, rfl, ⟨.inl (.inl upd_same), fun z => nomatch z⟩, _, _, rfl, ?_, _, _, rfl, (r'.mono t.ff).mono (Le.new (t.fh.none_of hp)), rfl⟩
    show V.int ((i : Nat) : Int) = V.int ((0 + i : Nat) : Int)
    rw [Nat.zero_add]
theorem tI_enum {e : E} (h : tI T W (.iEnum e) (PV.ev Φ G fl (.iEnum e)) σ H R) : iEnumA T.K (tE T W (PV.ev Φ G fl e)) σ H R := by
  obtain ⟨F, ρ, Rn, P⟩ := h
  refine ⟨F, ρ, Rn, (Post.seq (m := PV.ev Φ G fl e ρ) P).mono fun r ρ1 F1 H1 s k v hv => ?_⟩
  obtain ⟨F2, s2, le, rp⟩ := RepR.frz Rn s hv
  have q := k F2 H1 s2
  cases hx : r.frz with
  | lst xs =>
    rw [hx] at q rp
    obtain ⟨items, e1, q⟩ := q F2 H1 (Ste.refl s2.en)
    cases e1
    obtain ⟨a, vs, ev, h1, rs⟩ := rp
    exact ⟨a, vs, by rw [ev], .inl ⟨SqL.of (s2.en.le _ _ h1), q _ fun O hO => walks_enumL (fun F3 H3 t => SqL.of (t.fh _ _ (t.ff _ _ h1))) rs⟩⟩
  | tup d xs =>
    rw [hx] at q rp
    obtain ⟨items, e1, q⟩ := q F2 H1 (Ste.refl s2.en)
    cases e1
    obtain ⟨a, vs, ev, ⟨h1, _⟩, rs⟩ := rp
    exact ⟨a, vs, by rw [ev], .inr ⟨s2.en.le.sqt h1, q _ fun O hO => walks_enumT (fun F3 H3 t => t.fh.sqt (t.ff.sqt h1)) rs⟩⟩
  | scr xs =>
    rw [hx] at q rp
    obtain ⟨items, e1, q⟩ := q F2 H1 (Ste.refl s2.en)
    cases e1
    obtain ⟨a, vs, ev, h1, rs⟩ := rp
    exact ⟨a, vs, by rw [ev], .inl ⟨s2.en.le.sql h1, q _ fun O hO => walks_enumL (fun F3 H3 t => t.fh.sql (t.ff.sql h1)) rs⟩⟩
  | _ => rw [hx] at q; exact q.elim
theorem ienum {elts : List Expr} {kk : Nat} {x : Expr} {e : E} {p pos tpos : Pos} (hK : X.K = T.K) (hg : Gl X "enumerate") (hm : X.mg "enumerate" = none) (h : SE X T W Φ G fl x e) (hs : starEach [x] X.env = (false, eval x X.env) :: starEach [] X.env := by rfl) :
    SI X T W Φ G fl (.Tuple elts kk tpos) (.Call (.Name "enumerate" p) [x] [] pos) (.iEnum e) := (pi_enumA hg hm h hs).imp fun _ _ _ h => by rw [hK]; exact tI_enum h
/-! ### tuple(range(..)) -/
theorem rgV_rep {F : Hp} (a b : Int) : Reps T F (rangeV a (b - a).toNat) (rgV a b) := by
  unfold rangeV rgV
  generalize List.range (b - a).toNat = l
  induction l with
  | nil => rfl
  | cons i l ih => exact ⟨_, _, rfl, rfl, ih⟩
theorem stupR2 {x y : Expr} {ea eb : E} {p p1 pos pos1 : Pos} (hc : X.calm = true) (hg : Gl X "tuple") (hm : X.mg "tuple" = none) (hg2 : Gl X "range") (hm2 : X.mg "range" = none) (ha : SE X T W Φ G fl x ea) (hb : SE X T W Φ G fl y eb)
    (na : starEach [.Call (.Name "range" p1) [x, y] [] pos1] X.env = (false, eval (.Call (.Name "range" p1) [x, y] [] pos1) X.env) :: starEach [] X.env := by rfl)
    (n1 : starEach [x, y] X.env = (false, eval x X.env) :: starEach [y] X.env := by rfl) (n2 : starEach [y] X.env = (false, eval y X.env) :: starEach [] X.env := by rfl) (hpl : (backTo pos1 (starEach [y] X.env)).any (·.1) = false := by rfl) :
    SE X T W Φ G fl (.Call (.Name "tuple" p) [.Call (.Name "range" p1) [x, y] [] pos1] [] pos) (.tupR2 ea eb) := by
  refine (pe_tupRg hc hg hm (prg_2 hg2 hm2 ha hb n1 n2 hpl) na).imp fun σ H Q q => ?_
  obtain ⟨F, ρ, R, P⟩ := q
  refine ⟨F, ρ, R, (Post.seq (m := PV.ev Φ G fl ea ρ) P).mono fun r ρ1 F1 H1 s k v hv => ?_⟩
  refine ⟨F1, ρ1, s.en, (Post.seq (m := PV.ev Φ G fl eb ρ1) (k F1 H1 s)).mono fun r2 ρ2 F2 H2 s2 k2 v2 hv2 => ?_⟩
  have q := k2 F2 H2 s2
  cases r with
  | fresh _ => exact q.elim
  | val z =>
    cases z with
    | int m =>
      cases r2 with
      | fresh _ => exact q.elim
      | val z2 =>
        cases z2 with
        | int n =>
          dsimp only at q
          split at q
          · rename_i hb
            have hb1 : -(100000 : Int) ≤ m ∧ m ≤ 100000 ∧ -(100000 : Int) ≤ n ∧ n ≤ 100000 := hb
            refine ⟨m, n, hv, hv2, ⟨by omega, by omega, by omega, by omega, by omega⟩, fun p hp => ?_⟩
            have s3 : Ste T F2 H2 σ ρ2 (upd F2 p (.tup (rgV m n))) (upd H2 p (.tup (rgV m n))) ρ2 := (Ste.refl s2.en).newF hp
            exact q _ _ s3 _ ⟨p, _, rfl, ⟨.inl (.inl upd_same), fun z => nomatch z⟩, rgV_rep m n⟩
          · exact q.elim
        | _ => exact q.elim
    | _ => exact q.elim
theorem stupR1 {x : Expr} {ea : E} {p p1 pos pos1 : Pos} (hc : X.calm = true) (hg : Gl X "tuple") (hm : X.mg "tuple" = none) (hg2 : Gl X "range") (hm2 : X.mg "range" = none) (ha : SE X T W Φ G fl x ea)
    (na : starEach [.Call (.Name "range" p1) [x] [] pos1] X.env = (false, eval (.Call (.Name "range" p1) [x] [] pos1) X.env) :: starEach [] X.env := by rfl)
    (n1 : starEach [x] X.env = (false, eval x X.env) :: starEach [] X.env := by rfl) :
    SE X T W Φ G fl (.Call (.Name "tuple" p) [.Call (.Name "range" p1) [x] [] pos1] [] pos) (.tupR1 ea) := by
  refine (pe_tupRg hc hg hm (prg_1 hg2 hm2 ha n1) na).imp fun σ H Q q => ?_
  obtain ⟨F, ρ, R, P⟩ := q
  refine ⟨F, ρ, R, (Post.seq (m := PV.ev Φ G fl ea ρ) P).mono fun r ρ1 F1 H1 s k v hv => ?_⟩
  have q := k F1 H1 s
  cases r with
  | fresh _ => exact q.elim
  | val z =>
    cases z with
    | int n =>
      dsimp only at q
      split at q
      · rename_i hb
        have hb1 : -(100000 : Int) ≤ n ∧ n ≤ 100000 := hb
        refine ⟨n, hv, ⟨by omega, by omega, by omega, by omega, by omega⟩, fun p hp => ?_⟩
        have s3 : Ste T F1 H1 σ ρ1 (upd F1 p (.tup (rgV 0 n))) (upd H1 p (.tup (rgV 0 n))) ρ1 := (Ste.refl s.en).newF hp
        have rr := rgV_rep (T := T) (F := upd F1 p (.tup (rgV 0 n))) 0 n
        rw [Int.sub_zero] at rr
        exact q _ _ s3 _ ⟨p, _, rfl, ⟨.inl (.inl upd_same), fun z => nomatch z⟩, rr⟩
      · exact q.elim
    | _ => exact q.elim
end
end PV
end

section
set_option Elab.async false
set_option linter.all false
set_option autoImplicit false
set_option maxRecDepth 100000
set_option maxHeartbeats 4000000
/-! PVG: new instances; sets. -/
namespace PV
open PySem PySem.Spec L2
section
variable {X : Cx} {CX : CXT} {k : Nat} {f C : Addr} {fd : FuncData} {ps : List Str} {sp : Sp} {E : L2.St → XK} {x : Str} {p pos : Pos} {e : Expr} {es : List Expr} {t : TA}
theorem run_makeS {pins : List (Addr × Obj)} {σ : L2.St} {H : Hp} {s : Shared} {Q : VK} {us : List Value} {vs : List V} (M : Mk X.K C f) (FO : FnOk X.prog X.w X.K X.mg X.base CX k f fd ps sp) (hr : Room (k + 1) X.A) (hb : Binds X.K fd ps [])
    (hx : ∀ σ, PassesAt CX X σ (E σ)) (I : Inv X pins σ H s) (r : Vals vs us)
    (h : ∀ x dx, H x = none → H dx = none → dx ≠ x → sp (.ref x :: vs) (upd (upd H dx (.own x)) x (.ins C dx [])) (fun v H2 => v = .non ∧ Q (.ref x) H2) (E σ)) :
    wpAny (model X.prog X.w) X.A (call (.ref C) us) (EP X pins σ Q) X.xe s := by
  have hq := h (s.heap.objs.size + 1) s.heap.objs.size (I.hok.fresh (Nat.le_succ _)) (I.hok.fresh (Nat.le_refl _)) (Nat.ne_of_lt (Nat.lt_succ_self _))
  have I2 := Inv.made (C := C) I
  have r2 : Vals (V.ref (s.heap.objs.size + 1) :: vs) (Value.ref (s.heap.objs.size + 1) :: us) := .cons rfl r
  have hl : (Value.ref (s.heap.objs.size + 1) :: us).length = ps.length := by
    have e := r2.length
    rw [FO.len _ _ _ _ hq] at e
    exact e.symm
  have b := hb _ (Value.ref (s.heap.objs.size + 1) :: us) I2.kIn (by rw [List.append_nil]; exact hl)
  rw [List.append_nil] at b
  refine wpAny_call (make_map (f := f) I.kIn M.makes M.init (beq_iff_eq.mp M.fn) (codeAny_mono (FO.run _ X.stack _ _ ⟨Value.ref (s.heap.objs.size + 1) :: us, []⟩ (Value.ref (s.heap.objs.size + 1) :: us) _ _ (E σ) (hr.make C us [])
    (I2.env0.make C us []) b r2 hq) fun r s' hq' => ?_))
  cases r with
  | error e => exact hx σ pins _ _ e s' I2 hq'
  | ok fl =>
    cases fl with
    | ret u =>
      obtain ⟨v, H', I3, rv, ev, q3⟩ := I2.after hq'
      subst ev
      exact ⟨rv, ⟨V.ref (s.heap.objs.size + 1), H', I3, rfl, q3⟩⟩
    | next => exact False.elim hq'
    | brk => exact False.elim hq'
    | cont => exact False.elim hq'
def tMakeS (C : Addr) (sp : Sp) (E : L2.St → XK) (t : TA) : TE := fun σ H Q => t σ H fun vs H1 => ∀ x dx, H1 x = none → H1 dx = none → dx ≠ x → sp (.ref x :: vs) (upd (upd H1 dx (.own x)) x (.ins C dx [])) (fun v H2 => v = .non ∧ Q (.ref x) H2) (E σ)
theorem pe_makeS (M : Mk X.K C f) (FO : FnOk X.prog X.w X.K X.mg X.base CX k f fd ps sp) (hr : Room (k + 1) X.A) (hg : Gl X x) (hm : X.mg x = some (.ref C)) (hb : Binds X.K fd ps []) (hx : ∀ σ, PassesAt CX X σ (E σ))
    (ha : PA X (e :: es) t) (hdb : (x == ("__debug__" : Str)) = false := by decide) (he : starEach (e :: es) X.env = (false, eval e X.env) :: starEach es X.env := by rfl) (hpl : (backTo pos (starEach es X.env)).any (·.1) = false := by rfl) :
    PE X (.Call (.Name x p) (e :: es) [] pos) (tMakeS C sp E t) := by
  refine ⟨fun pins s σ H Q I h => ?_⟩
  refine wpAny_Call_Name_kw (ld_glob I hg hm ?_ hdb)
  refine PySem.W.callWith_K (h₀ := X.base) I.ok.mod.kin M.kp (thn (ha.run pos pins s σ H _ I h) fun us s1 ⟨vs, H1, I1, r, q⟩ => ⟨I1.kIn, ?_⟩) he hpl
  exact run_makeS M FO hr hb hx I1 r q
end
section
variable {X : Cx} {T : Sta} {W : WX} {Φ : Fns} {G : Nat → Option Val}
theorem smk {k : Nat} {f : Addr} {fd : FuncData} {ps : List Str} {n c : Nat} {D : Def} {x : Str} {p pos : Pos} {a : Expr} {as : List Expr} {es : E} (hK : X.K = T.K) (hc : c < T.ncl) (tk : Takes X W) (M : Mk X.K (T.cl c) f) (FO : FnOk X.prog X.w X.K X.mg X.base (L2.CX X.prog X.w) k f fd ps (spF T D (Φ n))) (hr : Room (k + 1) X.A) (hg : Gl X x)
    (hm : X.mg x = some (.ref (T.cl c))) (hb : Binds X.K fd ps []) (hk : D.kind = .ini) (ha : SA X T W Φ G T.fields (a :: as) es) (hdb : (x == ("__debug__" : Str)) = false := by decide) (he : starEach (a :: as) X.env = (false, eval a X.env) :: starEach as X.env := by rfl) (hpl : (backTo pos (starEach as X.env)).any (·.1) = false := by rfl) :
    SE X T W Φ G T.fields (.Call (.Name x p) (a :: as) [] pos) (.mk c n es) :=
  (pe_makeS (E := WE W) M FO hr hg hm hb (fun σ => passAt tk σ) ha hdb he hpl).imp fun _ _ _ h => tE_mk hk h rfl hc _ rfl
end
end PV

namespace L2
open PySem PySem.Spec PyProof.Rows
section
variable {P : Program} {w : World} {A : Around} {E : Value → Shared → Prop} {s : Shared}
set_option maxRecDepth 100000 in
set_option maxHeartbeats 3200000 in
theorem call_set_listI {l : Addr} {items : Array Value} (ns : List Int) {Q : Value → Shared → Prop} (hh : A.handled = none) (hl : s.heap.IsList l items) (hit : IntsAre items.toList ns) (hb : ns.length + 1 < scanBound)
    (h : ∀ (h' : Heap) (tk c : Nat), SetR w h' s.heap.objs.size (fun j => decide (j ∈ ns)) c → c ≤ ns.length → (∀ b o, s.heap.get? b = some o → h'.get? b = some o) → Q (.ref s.heap.objs.size) { s with heap := h', toks := tk }) :
    wpAny (model P w) A (call (.type "set") [.ref l]) Q E s := by
  have hisz : items.size = ns.length := by
    have q := IntsAre.length hit
    rw [Array.length_toList] at q
    exact q
  obtain ⟨c, tl, hmro⟩ := F.called_set.mro
  have hmade := F.called_set.made
  have hsub := F.called_set.sub
  refine wpAny_call (codeAny_of_tree ?_)
  show wpAny _ _ (callAny (.type "set") _) _ _ _
  refine wpAny_pure ⟨Code.quiet_builtin _ (by decide +kernel), codeAny_builtin F.entry_type_call ?_⟩
  rw [Around.under_plain (weight_type_call_type "set" [.ref l] []) rfl]
  have h1 := F.called_set.notType
  have h2 := F.called_set.canCreate
  have hct := F.typeCall_set_1 (.ref l)
  repeat (any_goals (first | assumption | wp_step))

  refine codeAny_mono (code_set_led1 (.ref l) (E := E) (Q₁ := fun obj s₁ => obj = .ref s.heap.objs.size ∧ s₁ = { s with heap := s.heap.push { cls := .type "set", dict := none, data := .set #[] 0 (.fresh 0 0 (!w.params.followText "set-order")) } }) ⟨rfl, rfl⟩) fun r s₁ hr => ?_
  cases r with
  | error e => exact hr
  | ok fl =>
    cases fl with
    | ret obj =>
      obtain ⟨rfl, rfl⟩ := hr
      have hS : (s.heap.push { cls := .type "set", dict := none, data := .set #[] 0 (.fresh 0 0 (!w.params.followText "set-order")) }).get? s.heap.objs.size = some { cls := .type "set", dict := none, data := .set #[] 0 (.fresh 0 0 (!w.params.followText "set-order")) } := Heap.get?_push_size _ rfl
      have hT : Shared.TypeIs { s with heap := s.heap.push { cls := .type "set", dict := none, data := .set #[] 0 (.fresh 0 0 (!w.params.followText "set-order")) } } (.ref s.heap.objs.size) "set" := ⟨_, hS, rfl⟩
      have hli := F.called_set.init.lookup
      have hbi := F.called_set.init.bind (.ref s.heap.objs.size)
      repeat (any_goals (first | assumption | wp_step))

      refine codeAny_mono (codeAny_call_builtin (R := wants (fun r s₂ => r = .none ∧ ∃ h' tk c, s₂ = { s with heap := h', toks := tk } ∧ SetR w h' s.heap.objs.size (fun j => decide (j ∈ ns)) c ∧ c ≤ ns.length ∧
          (∀ b o, s.heap.get? b = some o → h'.get? b = some o)) E) F.called_set.init.plain F.entry_set_init (check_set_init_1 hT ?_)) fun r₂ s₂ hr₂ => ?_
      · obtain ⟨ol, hol, hcl, nl, hdl⟩ := hl
        obtain ⟨ocls, odict, odata, oslots⟩ := ol
        simp only at hcl hdl
        subst hcl; subst hdl
        have hol' : (s.heap.push { cls := .type "set", dict := none, data := .set #[] 0 (.fresh 0 0 (!w.params.followText "set-order")) }).get? l = some { cls := .type "list", dict := odict, data := .seq items nl, slots := oslots } := Heap.get?_push_of_some _ hol
        have hsls := F.sub_list_set
        have hslf := F.sub_list_frozenset
        have hne : (Value.type "list" == Value.type "dict") = false := by decide
        have hl1 : (s.heap.push { cls := .type "set", dict := none, data := .set #[] 0 (.fresh 0 0 (!w.params.followText "set-order")) }).IsList l items := ⟨_, hol', rfl, nl, rfl⟩
        unfold Builtin.«set.__init__» noKeywords Builtin.Frozenset.updateFrom
        generalize hPI : pyIter = PI
        wp_walk
        subst hPI

        refine wpAny_pyIter_list hl1 ?_
        refine wpAny_bind (wpAny_runValue ?_)
        have hlS : l < s.heap.objs.size := Heap.lt_size hol
        have hh3 : A.in1.in1.in1.handled = none := by simp [hh]
        have hz1 : (s.heap.push { cls := .type "set", dict := none, data := .set #[] 0 (.fresh 0 0 (!w.params.followText "set-order")) }).objs.size = s.heap.objs.size + 1 := Heap.size_push ..
        have hneI : l ≠ (s.heap.push { cls := .type "set", dict := none, data := .set #[] 0 (.fresh 0 0 (!w.params.followText "set-order")) }).objs.size := by
          rw [Heap.size_push]; exact Nat.ne_of_lt (Nat.lt_succ_of_lt hlS)
        have hSf : s.heap.objs.size ∉ [(s.heap.push { cls := .type "set", dict := none, data := .set #[] 0 (.fresh 0 0 (!w.params.followText "set-order")) }).objs.size, l] := by
          rw [Heap.size_push]; simp only [List.mem_cons, List.mem_singleton, List.not_mem_nil, or_false, not_or]
          exact ⟨Nat.ne_of_lt (Nat.lt_succ_self _), Nat.ne_of_gt hlS⟩
        have hval : ∀ (i : Nat) (v : Value), items[i]? = some v → ∃ k t, ns[i]? = some k ∧ v = .int k t := fun i v hv => by
          have hi : i < ns.length := by rw [← hisz]; exact (Array.getElem?_eq_some_iff.mp hv).1
          obtain ⟨t, e⟩ := PyProof.Rows.IntsAre.int_at hit i v (by rw [Array.getElem?_toList]; exact hv)
          refine ⟨ns[i], t, List.getElem?_eq_getElem hi, ?_⟩
          rw [e, List.getD_eq_getElem?_getD, List.getElem?_eq_getElem hi] <;> rfl
        refine set_update_ints ((Walks.list hh3 _ l hneI items).toS) s.heap.objs.size
          hSf ns hisz hb hval (items.size - 0) 0 _ (by omega) (Nat.zero_le _)
          ⟨⟨_, Heap.get?_push_size _ rfl, rfl, rfl⟩, (hl1.push _)⟩ ?hS0 ?hR
        case hS0 =>
          have hget : ((s.heap.push { cls := .type "set", dict := none, data := .set #[] 0 (.fresh 0 0 (!w.params.followText "set-order")) }).push { cls := .type "list_iterator", data := .fields #[.ref l, .int 0 0] }).get? s.heap.objs.size
              = some { cls := .type "set", dict := none, data := .set #[] 0 (.fresh 0 0 (!w.params.followText "set-order")) } := Heap.get?_push_of_some _ hS
          exact ⟨0, Nat.le_refl 0, setR_new_at hget⟩
        case hR =>
          intro s' c' hm hc' hS'
          obtain ⟨h', g2, d', tk', os'⟩ := s'
          have eg : g2 = s.gens := hm.gens
          have ed : d' = s.drawn := hm.drawn
          have eo : os' = s.os := hm.os
          subst eg; subst ed; subst eo
          show wpAny _ _ _ _ _ _
          refine wpAny_pure ?_
          show wpAny _ _ (ret Value.none) _ _ _
          rw [hisz] at hc'
          refine wpAny_pure ⟨rfl, h', tk', c', rfl, hS', hc', fun b o e => ?_⟩
          have hb0 : b < s.heap.objs.size := Heap.lt_size e
          have hb1 : b ≠ s.heap.objs.size := Nat.ne_of_lt hb0
          have hb2 : b ≠ (s.heap.push { cls := .type "set", dict := none, data := .set #[] 0 (.fresh 0 0 (!w.params.followText "set-order")) }).objs.size := by
            rw [Heap.size_push]; exact Nat.ne_of_lt (Nat.lt_succ_of_lt hb0)
          exact hm.heap b o (by simp only [List.mem_cons, List.mem_singleton, List.not_mem_nil, or_false, not_or]; exact ⟨hb1, hb2⟩) (Heap.get?_push_of_some _ (Heap.get?_push_of_some _ e))

      · cases r₂ with
        | error e => exact hr₂
        | ok fl₂ =>
          cases fl₂ with
          | ret r =>
            obtain ⟨rfl, h', tk, c', rfl, hS', hc', hk'⟩ := hr₂
            repeat (any_goals (first | assumption | wp_step))
            exact h _ _ _ hS' hc' hk'
          | _ => exact hr₂.elim
    | _ => exact hr.elim

end
end L2

namespace PV
open PySem PySem.Spec L2
theorem dedup_mem : ∀ (l : List Int) (k : Int), k ∈ dedupI l ↔ k ∈ l
  | [], k => Iff.rfl
  | i :: r, k => by
    unfold dedupI
    split
    · rename_i h
      rw [dedup_mem r k]
      have hi : i ∈ r := by
        obtain ⟨x, hx, e⟩ := List.any_eq_true.mp h
        have : x = i := by simpa using e
        rw [← this]; exact hx
      constructor
      · intro h; exact List.mem_cons_of_mem _ h
      · intro h
        rcases List.mem_cons.mp h with e | h
        · rw [e]; exact hi
        · exact h
    · rw [List.mem_cons, List.mem_cons, dedup_mem r k]
theorem dedup_nodup : ∀ l : List Int, (dedupI l).Nodup
  | [] => List.nodup_nil
  | i :: r => by
    unfold dedupI
    split
    · exact dedup_nodup r
    · rename_i h
      refine List.nodup_cons.mpr ⟨fun hm => h ?_, dedup_nodup r⟩
      rw [dedup_mem] at hm
      exact List.any_eq_true.mpr ⟨i, hm, by simp⟩
theorem nodup_len : ∀ {l m : List Int}, l.Nodup → m.Nodup → (∀ k, k ∈ l ↔ k ∈ m) → l.length = m.length := fun {l m} h1 h2 h => ((List.perm_ext_iff_of_nodup h1 h2).mpr h).length_eq
theorem setR_count {w : World} {h : Heap} {a : Addr} {ns : List Int} {c : Nat} (R : SetR w h a (fun j => decide (j ∈ ns)) c) : c = (dedupI ns).length := by
  obtain ⟨o, es, ep, t, _, _, _, _, nd, hm, _, _, hn, _⟩ := R
  have : es.toList.map keyOf = es.toList.map keyOf := rfl
  have l1 := nodup_len nd (dedup_nodup ns) fun k => by
    rw [dedup_mem, ← hm k]
    simp
  rw [List.length_map, Array.length_toList] at l1
  omega
section
variable {X : Cx} {T : Sta} {W : WX} {Φ : Fns} {G : Nat → Option Val} {fl : Nat → List Str}
/-- set(l) of a list of ints: tracked so that it can be walked -/
def rSetLO (K : PySem.W.Frag) (w : World) : List V → Hp → VK → Prop := fun xs H Q => ∃ (l : Addr) (ns : List Int), xs = [V.ref l] ∧ SqL K H l (ns.map V.int) ∧ ns.length < 4000 ∧ ∀ p, H p = none → Q (.ref p) (upd H p (SetO w p (fun j => decide (j ∈ ns)) (dedupI ns).length))
theorem cr_setLO (hc : X.calm = true) : CallR X (.type "set") (rSetLO X.K X.w) := by
  intro pins s σ H xs us Q I r h
  obtain ⟨l, ns, rfl, hl, hz, q⟩ := h
  rw [Vals.ref1 r]
  obtain ⟨its, rv, pl, _⟩ := I.list hl
  have hn : H s.heap.objs.size = none := I.hok.fresh (Nat.le_refl _)
  refine call_set_listI (P := X.prog) (w := X.w) ns (I.ok.hd hc) pl.isList (by simpa using rv.ints) (by unfold scanBound; omega) fun h' tk c R hcn k => ?_
  have ec := setR_count R
  subst ec
  exact ⟨.ref s.heap.objs.size, _, I.laid (t' := tk) k (Nat.le_refl _) (setO_new R), rfl, q _ hn⟩
/-- .. kept alone -/
def rSetLK (K : PySem.W.Frag) : List V → Hp → VK → Prop := fun xs H Q => ∃ (l : Addr) (ns : List Int), xs = [V.ref l] ∧ SqL K H l (ns.map V.int) ∧ ns.length < 4000 ∧ ∀ p, H p = none → Q (.ref p) (upd H p (.set (fun j => decide (j ∈ ns)) (dedupI ns).length))
theorem cr_setLK (hc : X.calm = true) : CallR X (.type "set") (rSetLK X.K) := by
  intro pins s σ H xs us Q I r h
  obtain ⟨l, ns, rfl, hl, hz, q⟩ := h
  rw [Vals.ref1 r]
  obtain ⟨its, rv, pl, _⟩ := I.list hl
  have hn : H s.heap.objs.size = none := I.hok.fresh (Nat.le_refl _)
  refine call_set_listI (P := X.prog) (w := X.w) ns (I.ok.hd hc) pl.isList (by simpa using rv.ints) (by unfold scanBound; omega) fun h' tk c R hcn k => ?_
  have ec := setR_count R
  subst ec
  exact ⟨.ref s.heap.objs.size, upd H s.heap.objs.size (.set (fun j => decide (j ∈ ns)) (dedupI ns).length), I.laid (t' := tk) (o := .set (fun j => decide (j ∈ ns)) (dedupI ns).length) k (Nat.le_refl _) R.setOf, rfl, q _ hn⟩
theorem smset {a : Expr} {ea : E} {p pos : Pos} (hK : X.K = T.K) (hc : X.calm = true) (hg : Gl X "set") (hm : X.mg "set" = none) (ha : SO X T W Φ G fl a ea)
    (he : starEach [a] X.env = (false, eval a X.env) :: starEach [] X.env := by rfl) (hpl : (backTo pos (starEach [] X.env)).any (·.1) = false := by rfl) : SE X T W Φ G fl (.Call (.Name "set" p) [a] [] pos) (.o1 .mset ea) :=
  scT1 ⟨rSetLK T.K, by have := cr_setLK (X := X) hc; rw [hK] at this; exact this, fun {F H x v z Q} e h le w => by
    cases x <;> try (cases e)
    rename_i xs
    obtain ⟨a, vs, e1, h1, r⟩ := h
    simp only [op1] at e
    split at e
    · rename_i is e2
      split at e
      · rename_i hz
        cases e
        rw [ints_of e2] at r hz
        rw [Reps.ints r] at h1
        rw [List.length_map] at hz
        refine ⟨a, is, by rw [e1], SqL.of h1, hz, fun p hp => ?_⟩
        exact w (upd F p _) _ _ (Tr.new le hp) ⟨p, _, _, rfl, upd_same, fun i => by
          rw [Bool.eq_iff_iff]
          simp⟩
      · cases e
    · cases e⟩ hg hm PyProof.Rows.boot_set ha (by decide) (by decide) he hpl
theorem lt_sorted_uniq {l m : List Int} (hl : l.Pairwise (· < ·)) (hm : m.Pairwise (· < ·)) (h : ∀ k, k ∈ l ↔ k ∈ m) : l = m := by
  have n1 : l.Nodup := hl.imp fun h => by omega
  have n2 : m.Nodup := hm.imp fun h => by omega
  exact sorted_uniq ((List.perm_ext_iff_of_nodup n1 n2).mpr h) (hl.imp fun h => by omega) (hm.imp fun h => by omega)
theorem lt_of_le_nodup {l : List Int} (h : l.Pairwise (· ≤ ·)) (n : l.Nodup) : l.Pairwise (· < ·) := by
  induction l with
  | nil => exact List.Pairwise.nil
  | cons x r ih =>
    obtain ⟨h1, h2⟩ := List.pairwise_cons.mp h
    obtain ⟨n1, n2⟩ := List.nodup_cons.mp n
    refine List.pairwise_cons.mpr ⟨fun y hy => ?_, ih h2 n2⟩
    have := h1 y hy
    have : x ≠ y := fun e => n1 (by rw [e]; exact hy)
    omega
/-- sorted(set(a)) of a list of ints -/
theorem ssortset {a : Expr} {ea : E} {p p1 pos pos1 : Pos} (hK : X.K = T.K) (hc : X.calm = true) (hu : X.A.units + 65 < cLine) (hg : Gl X "sorted") (hm : X.mg "sorted" = none) (hg2 : Gl X "set") (hm2 : X.mg "set" = none) (ha : SO X T W Φ G fl a ea)
    (he : starEach [a] X.env = (false, eval a X.env) :: starEach [] X.env := by rfl) (hpl : (backTo pos1 (starEach [] X.env)).any (·.1) = false := by rfl)
    (he2 : starEach [.Call (.Name "set" p1) [a] [] pos1] X.env = (false, eval (.Call (.Name "set" p1) [a] [] pos1) X.env) :: starEach [] X.env := by rfl) (hpl2 : (backTo pos (starEach [] X.env)).any (·.1) = false := by rfl) :
    SE X T W Φ G fl (.Call (.Name "sorted" p) [.Call (.Name "set" p1) [a] [] pos1] [] pos) (.o1 .sset ea) := by
  refine (pe_callB (cr_sortedSet hc) hg hm PyProof.Rows.boot_sorted (pa_cons (pe_callTy (cr_setLO hc) hg2 hm2 PyProof.Rows.boot_set (pa_cons ha pa_nil he) (by decide) (by decide) he hpl) pa_nil he2) (by decide) (by decide) he2 hpl2).imp fun σ H Q q => ?_
  have q' := tE_o1 q (r := fun v H Q => ∃ (l : Addr) (ns : List Int), v = V.ref l ∧ SqL X.K H l (ns.map V.int) ∧ ns.length < 4000 ∧ (dedupI ns).length < 64 ∧ ∀ p p2, H p = none → H p2 = none → p2 ≠ p → Q (.ref p2) (upd (upd H p (SetO X.w p (fun j => decide (j ∈ ns)) (dedupI ns).length)) p2 (.lst ((sortI (dedupI ns)).map V.int)))) fun {F H x v z Q} e h le w => by
    cases x <;> try (cases e)
    rename_i xs
    obtain ⟨a, vs, e1, h1, r⟩ := h
    simp only [op1] at e
    split at e
    · rename_i is e2
      split at e
      · rename_i hz
        cases e
        rw [ints_of e2] at r hz
        rw [Reps.ints r] at h1
        rw [List.length_map] at hz
        simp only [Bool.and_eq_true, decide_eq_true_eq] at hz
        refine ⟨a, is, e1, SqL.of h1, hz.1, hz.2, fun p p2 hp hp2 hne => ?_⟩
        have t1 : Tr F H noO F (upd H p (SetO X.w p (fun j => decide (j ∈ is)) (dedupI is).length)) := Tr.newH le hp
        have hp2' : (upd H p (SetO X.w p (fun j => decide (j ∈ is)) (dedupI is).length)) p2 = none := by rw [upd_ne hne]; exact hp2
        have t2 := Tr.newH (o := HO.lst ((sortI (dedupI is)).map V.int)) t1.fh hp2'
        exact w F _ _ (t1.trans t2 fun _ h => h.elim) ⟨p2, _, rfl, hp2, le.none_of hp2, upd_same, Reps.ofInts _⟩
      · cases e
    · cases e
  obtain ⟨F, ρ, R, P⟩ := q'
  refine ⟨F, ρ, R, P.mono fun o ρ1 F1 H1 s k v hv => ?_⟩
  obtain ⟨l, ns, ev, hl, hz, h64, kk⟩ := k v hv
  refine ⟨l, ns, by rw [ev], hl, hz, fun p hp => ?_⟩
  refine ⟨p, _, _, rfl, upd_same, h64, fun ns' p2 hpw hmem hlen hp2 => ?_⟩
  have hne : p2 ≠ p := fun e => by rw [e, upd_same] at hp2; cases hp2
  have e1 : ns' = sortI (dedupI ns) := lt_sorted_uniq hpw (lt_of_le_nodup (sortI_sorted _) ((sortI_perm _).nodup_iff.mpr (dedup_nodup _))) fun k => by
    rw [hmem, (sortI_perm _).mem_iff, dedup_mem]
    simp
  rw [e1]
  exact kk p p2 hp (by rw [upd_ne hne] at hp2; exact hp2) hne
end
end PV
end

section
set_option Elab.async false
set_option linter.all false
set_option autoImplicit false
set_option maxRecDepth 100000
set_option maxHeartbeats 4000000
/-! PVH: sorted(set(..)) of tuples of ints of any lengths. -/
namespace PV
open PySem PySem.Spec L2 PyProof.Rows
section
variable {prog : Program} {w : World} {A : Around} {E : Value → Shared → Prop} {s : Shared}
theorem keyLt'_general (x y : Value) : keyLt' general' x y = oneLt' false x y := rfl
theorem kl_ints {b fin : Bool} {Q : Bool → Shared → Prop} : ∀ {vs ws : List Value} {ns ms : List Int} (i : Nat), IntsAre vs ns → IntsAre ws ms → fin = decide (ns.length < ms.length) → Q (HT.lexLt ns ms) s → PySem.W.KatLex prog w A b fin Q (vs.zip ws) i s := by
  intro vs ws ns ms i hv hw hf h
  induction hv generalizing ws ms i with
  | nil =>
    rw [List.zip_nil_left]
    cases hw with
    | nil => rw [hf]; exact PySem.W.kat_nil h
    | cons c u hw => rw [hf]; exact PySem.W.kat_nil h
  | cons a t hv ih =>
    cases hw with
    | nil => rw [List.zip_nil_right, hf]; exact PySem.W.kat_nil h
    | cons c u hw =>
      rw [List.zip_cons_cons]
      rw [HT.lexLt_cons] at h
      refine PySem.W.kat_cons (wpAny_eqBool_int ?_)
      refine PySem.W.kat_go (fun e => ?_) (fun e => ?_)
      · have ea : a = c := by simpa using e
        rw [if_pos ea] at h
        exact PySem.W.kat_yes (ih (i + 1) hw (by rw [hf]; simp) h)
      · have ea : ¬ a = c := by simpa using e
        rw [if_neg ea] at h
        exact PySem.W.kat_no (TS.oneLt_ints _ h)
theorem lt_tuples {v u : Value} {ns ms : List Int} {b : Bool} {Q : Bool → Shared → Prop} (hv : TS.TupInts s.heap v ns) (hw : TS.TupInts s.heap u ms) (h : Q (HT.lexLt ns ms) s) : wpAny (model prog w) A (keyLt' (tuples' b) v u) Q E s := by
  obtain ⟨a, xs, rfl, ⟨o, ho, hc, n, hd⟩, i⟩ := hv
  obtain ⟨a', xs', rfl, ⟨o', ho', hc', n', hd'⟩, i'⟩ := hw
  refine PySem.W.kat_lt ho hd ho' hd' (kl_ints 0 i i' ?_ h)
  have h1 := i.length
  have h2 := i'.length
  rw [Array.length_toList] at h1 h2
  rw [h1, h2]
theorem lt_general {v u : Value} {ns ms : List Int} {Q : Bool → Shared → Prop} (hu : A.units < cLine) (hv : TS.TupInts s.heap v ns) (hw : TS.TupInts s.heap u ms) (h : Q (HT.lexLt ns ms) s) : wpAny (model prog w) A (keyLt' general' v u) Q E s := by
  obtain ⟨a, xs, rfl, hl, i⟩ := hv
  obtain ⟨a', xs', rfl, hb, i'⟩ := hw
  rw [keyLt'_general]
  exact PySem.W.kat_one _ _ (HT.lt_tupInts hl hb i i' hu h)
theorem lt_oneType {v u : Value} {ns ms : List Int} {Q : Bool → Shared → Prop} (hu : A.units < cLine) (hv : TS.TupInts s.heap v ns) (hw : TS.TupInts s.heap u ms) (h : Q (HT.lexLt ns ms) s) : wpAny (model prog w) A (keyLt' oneType' v u) Q E s := by
  obtain ⟨a, items, rfl, hl, i⟩ := hv
  obtain ⟨b, items2, rfl, hb, i'⟩ := hw
  obtain ⟨⟨cls, dd, data, sl⟩, ho, hc, n, hd⟩ := id hl
  obtain ⟨⟨cls2, dd2, data2, sl2⟩, ho2, hc2, n2, hd2⟩ := id hb
  simp only at hc hd hc2 hd2
  subst hc hd hc2 hd2
  rw [keyLt'_oneType, oneLt'_eq]
  simp only [if_true]
  refine wpAny_bind (wpAny_cRoomFor hu ?_)
  refine wpAny_bind (wpAny_callSpecialIfBound?_slot ⟨_, ho, rfl⟩ PySem.F.slot_tuple_lt ?_)
  have iv : PySem.W.Looks (model prog w) s.heap (isInstance (.ref a) (.type "tuple")) true := (PySem.W.Looks.ld ho).andThen (by exact PySem.W.Looks.now)
  refine wpAny_call (codeAny_call_builtin PySem.F.slot_tuple_lt.plain PySem.F.entry_tuple_lt (@PySem.W.check_slot (model prog w) _ _ _ "tuple.__lt__" "tuple" "__lt__" (.ref a) [.ref b] [] _ (by decide +kernel) (by decide +kernel) iv (PySem.F.args_tuple_lt_2 _ _) ?_))
  refine wpAny_mono (HT.tuple_lt_ints a b items items2 n n2 dd dd2 sl sl2 ns ms i i' prog w _ (wants (fun v s' => wpAny (model prog w) A (do
      match some v with
      | some .notImplemented | none => rule "list.sort.lt-declined"
      | some r => return ← truthOfDropped r
      truthOfDropped (← richCompare .Lt (.ref a) (.ref b))) Q E s') E) s ⟨ho, ho2, by exact (wpAny_bind (wpAny_truthy_bool (wpAny_pure h)))⟩) (fun fin s' q => ?_) fun _ _ z => z
  cases fin with
  | done f => exact q
  | again c => exact q
end
section
variable {M : Model} {A : Around} {E : Value → Shared → Prop} {s : Shared}
theorem firsts_mix : ∀ (vs : List Value) {Q : List (Option Value) → Shared → Prop}, (∀ v ∈ vs, ∃ ns, TS.TupInts s.heap v ns) →
    (∀ fs : List (Option Value), fs.length = vs.length → fs.map (·.isSome) = vs.map (fun v => !(TS.intsOf s.heap v).isEmpty) → Q fs s) → wpAny M A (vs.mapM firstOfTuple') Q E s
  | [], _, _, h => by rw [List.mapM_nil]; exact wpAny_pure (h [] rfl rfl)
  | v :: vs, Q, t, h => by
    obtain ⟨ns, hv⟩ := t v List.mem_cons_self
    have hi := hv.ints
    obtain ⟨a, xs, rfl, ⟨o, ho, hc, n, hd⟩, i⟩ := hv
    rw [List.mapM_cons]
    refine wpAny_bind ?_
    rw [PySem.W.kas_first_eq]
    refine wpAny_bind (PySem.W.Looks.here (show PySem.W.Looks M s.heap (typeOf (.ref a)) o.cls from (PySem.W.Looks.ld ho).andThen .now) ?_)
    rw [hc, if_neg (by first | decide | simp)]
    refine wpAny_bind (listItems_at ho hd (wpAny_pure ?_))
    refine wpAny_bind (firsts_mix vs (Q := fun bs s' => wpAny M A (pure (xs[0]? :: bs)) Q E s') (fun u hu => t u (List.mem_cons_of_mem _ hu)) fun fs h1 h2 => wpAny_pure (h _ (by rw [List.length_cons, List.length_cons, h1]) ?_))
    rw [List.map_cons, List.map_cons, h2, hi]
    have e : xs[0]?.isSome = !ns.isEmpty := by
      have hl := i.length
      rw [Array.length_toList] at hl
      cases ns with
      | nil =>
        have : xs.size = 0 := hl
        have e0 : xs[0]? = none := Array.getElem?_eq_none (by omega)
        rw [e0]; rfl
      | cons x r =>
        have : xs.size = r.length + 1 := hl
        have e0 : xs[0]? = some xs[0] := Array.getElem?_eq_getElem (by omega)
        rw [e0]; rfl
    rw [e]
end
section
variable {prog : Program} {w : World} {A : Around} {E : Value → Shared → Prop} {s : Shared}
theorem katTups_of {h : Heap} : ∀ {vs : List Value}, (∀ v ∈ vs, ∃ x r, TS.TupInts h v (x :: r)) → ∃ fs, PySem.W.KatTups h vs fs ∧ fs.length = vs.length ∧ ∀ f ∈ fs, ∃ x t, f = Value.int x t
  | [], _ => ⟨[], PySem.W.KatTups.nil, rfl, fun f hf => absurd hf (by simp)⟩
  | v :: vs, hv => by
    obtain ⟨fs, h1, h2, h3⟩ := katTups_of (vs := vs) fun u hu => hv u (List.mem_cons_of_mem _ hu)
    obtain ⟨x, r, a, xs, rfl, ⟨o, ho, hc, n, hd⟩, i⟩ := hv v List.mem_cons_self
    cases q : xs.toList with
    | nil =>
      rw [q] at i
      cases i
    | cons f fr =>
      rw [q] at i
      cases i with
      | cons _ t i' =>
        have hf : xs[0]? = some (Value.int x t) := by rw [← Array.getElem?_toList, q]; rfl
        refine ⟨Value.int x t :: fs, PySem.W.KatTups.cons ho hc hd hf h1, by rw [List.length_cons, List.length_cons, h2], fun g hg => ?_⟩
        rcases List.mem_cons.mp hg with rfl | hg
        · exact ⟨x, t, rfl⟩
        · exact h3 g hg
/-- tuples of ints, of any lengths, can be sorted -/
theorem tups_sortable {a : Addr} {vs : List Value} (hu : A.units < cLine) (h2 : 2 ≤ vs.length) (hp : ∀ v ∈ vs, ∃ ns, TS.TupInts s.heap v ns) (ha : ∀ o, s.heap.get? a = some o → o.cls ≠ .type "tuple") :
    SrtO.SortableO prog w A s a vs fun v u => HT.lexLt (TS.intsOf s.heap v) (TS.intsOf s.heap u) := by
  intro h' keep
  have hp' : ∀ v ∈ vs, TS.TupInts h' v (TS.intsOf s.heap v) := fun v hm => by
    obtain ⟨ns, x⟩ := hp v hm
    rw [x.ints]
    exact x.keeps fun b o e c => keep b o (fun z => by subst z; exact ha o e c) e
  by_cases hall : ∀ v ∈ vs, TS.intsOf s.heap v ≠ []
  · obtain ⟨fs, h1, h3, h4⟩ := katTups_of (h := h') (vs := vs) fun v hm => by
      have := hp' v hm
      cases q : TS.intsOf s.heap v with
      | nil => exact absurd q (hall v hm)
      | cons x r => rw [q] at this; exact ⟨x, r, this⟩
    refine ⟨tuples' true, fun Q E hq => ?_, fun p q hm hm' => lt_tuples (s := { s with heap := h' }) (hp' _ hm) (hp' _ hm') ⟨rfl, rfl⟩⟩
    refine PySem.W.kat_kind (s := { s with heap := h' }) (T := .type "int") h1 (by omega) (fun f hm => ?_) (by rfl) ?_
    · obtain ⟨x, t, rfl⟩ := h4 f hm
      exact PySem.W.Looks.now
    · have e : (Value.type "int" != Value.type "tuple") = true := by first | decide +kernel | rfl | decide
      rw [e]
      exact hq
  · obtain ⟨v1, v2, rest, rfl⟩ : ∃ v1 v2 rest, vs = v1 :: v2 :: rest := by
      match vs, h2 with
      | [], h2 => simp at h2
      | [_], h2 => simp at h2
      | v1 :: v2 :: rest, _ => exact ⟨v1, v2, rest, rfl⟩
    have hmap : (v1 :: v2 :: rest).map (fun v => !(TS.intsOf h' v).isEmpty) = (v1 :: v2 :: rest).map (fun v => !(TS.intsOf s.heap v).isEmpty) :=
      List.map_congr_left fun v hv => by rw [(hp' v hv).ints]
    have hex : ∃ v ∈ v1 :: v2 :: rest, TS.intsOf s.heap v = [] := by
      refine Classical.byContradiction fun hn => hall fun v hv e => hn ⟨v, hv, e⟩
    have start : ∀ (Q : SortKind → Shared → Prop) (E : Value → Shared → Prop), (∀ fs : List (Option Value), fs.length = (v1 :: v2 :: rest).length → fs.map (·.isSome) = (v1 :: v2 :: rest).map (fun v => !(TS.intsOf s.heap v).isEmpty) →
        wpAny (model prog w) A (if (fs.toArray[0]?.bind id).isSome then (pure general' : Sem SortKind) else do return if (← oneTypeOnly' (v1 :: v2 :: rest).toArray).isSome then oneType' else general') Q E { s with heap := h' }) →
        wpAny (model prog w) A (keyKind' (v1 :: v2 :: rest).toArray) Q E { s with heap := h' } := by
      intro Q E h
      rw [keyKind'_eq, List.mapM_toArray, map_eq_pure_bind]
      refine wpAny_bind (wpAny_bind (firsts_mix (s := { s with heap := h' }) _ (fun v hv => ⟨_, hp' v hv⟩) fun fs e1 e2 => wpAny_pure ?_))
      rw [hmap] at e2
      have hno : ¬ (fs.toArray.all fun x => x.isSome) = true := fun hy => by
        obtain ⟨v, hv, e⟩ := hex
        have hm : (!(TS.intsOf s.heap v).isEmpty) ∈ fs.map (·.isSome) := by rw [e2]; exact List.mem_map.mpr ⟨v, hv, rfl⟩
        obtain ⟨f, hf, ef⟩ := List.mem_map.mp hm
        rw [List.all_toArray, List.all_eq_true] at hy
        rw [hy f hf, e] at ef
        cases ef
      rw [if_neg hno]
      exact h fs e1 e2
    have cmpG : ∀ κ, (κ = general' ∨ κ = oneType') → SrtO.Cmp prog w A { s with heap := h' } κ (fun p => p.1 ∈ v1 :: v2 :: rest) (SrtO.lt2 fun v u => HT.lexLt (TS.intsOf s.heap v) (TS.intsOf s.heap u)) := by
      rintro κ (rfl | rfl) p q hm hm'
      · exact lt_general (s := { s with heap := h' }) hu (hp' _ hm) (hp' _ hm') ⟨rfl, rfl⟩
      · exact lt_oneType (s := { s with heap := h' }) hu (hp' _ hm) (hp' _ hm') ⟨rfl, rfl⟩
    by_cases h0 : TS.intsOf s.heap v1 = []
    · refine ⟨oneType', fun Q E hq => start Q E fun fs e1 e2 => ?_, cmpG _ (.inr rfl)⟩
      match fs, e1, e2 with
      | f :: fr, e1, e2 =>
        have ef : f.isSome = false := by
          have := (List.cons.inj (show f.isSome :: fr.map (·.isSome) = _ :: _ from e2)).1
          rw [this]
          show (!(TS.intsOf s.heap v1).isEmpty) = false
          rw [h0]; rfl
        have e3 : ((f :: fr).toArray[0]?.bind id) = f := by simp
        rw [e3, ef, if_neg (by decide)]
        rw [oneTypeOnly'_eq, List.mapM_toArray, map_eq_pure_bind]
        refine wpAny_bind (wpAny_bind (wpAny_bind (PySem.W.kas_mapM (r := .type "tuple") _ (fun v hv Q' hq => ?_) (wpAny_pure ?_))))
        · obtain ⟨a, xs, rfl, ⟨o, ho, hc, n, hd⟩, i⟩ := hp' v hv
          exact PySem.W.Looks.here (show PySem.W.Looks _ h' (typeOf (.ref a)) (.type "tuple") from hc ▸ (PySem.W.Looks.ld ho).andThen .now) hq
        have hall2 : ((List.map (fun _ => Value.type "tuple") (v1 :: v2 :: rest)).toArray.all fun x => x == Value.type "tuple") = true := by
          simp only [List.all_toArray, List.all_map, List.all_eq_true]
          intro _ _
          rfl
        have h0' : (List.map (fun _ => Value.type "tuple") (v1 :: v2 :: rest)).toArray[0]? = some (Value.type "tuple") := by simp
        rw [h0']
        simp only [hall2, if_true]
        exact wpAny_pure (wpAny_pure hq)
    · refine ⟨general', fun Q E hq => start Q E fun fs e1 e2 => ?_, cmpG _ (.inl rfl)⟩
      match fs, e1, e2 with
      | f :: fr, e1, e2 =>
        have ef : f.isSome = true := by
          have := (List.cons.inj (show f.isSome :: fr.map (·.isSome) = _ :: _ from e2)).1
          rw [this]
          show (!(TS.intsOf s.heap v1).isEmpty) = true
          cases q : TS.intsOf s.heap v1 with
          | nil => exact absurd q h0
          | cons x r => rfl
        have e3 : ((f :: fr).toArray[0]?.bind id) = f := by simp
        rw [e3, ef, if_pos rfl]
        exact wpAny_pure hq
end

section
variable {P : Program} {w : World} {A : Around} {E : Value → Shared → Prop} {s : Shared}
theorem sorted_setG {a : Addr} {L : List (Addr × List Int)} {es : Array (Int × Value)} {ep : Nat} {t : SetTable} {Q : Value → Shared → Prop} (R : SetTR P w s.heap a L es ep t) (hh : A.handled = none) (hu : A.units + 8 < cLine)
    (hQ : ∀ s' p (out : Array Value) (c : Nat) (L' : List (Addr × List Int)), (∀ b o, s.heap.get? b = some o → s'.heap.get? b = some o) → s'.gens = s.gens → s'.os = s.os → s.heap.objs.size ≤ p →
      s'.heap.get? p = some (seqObj "list" out c) → out.toList = L'.map (fun q => Value.ref q.1) → L'.Perm L → L'.Pairwise (fun q r => HT.lexLt r.2 q.2 = false) → Q (.ref p) s') :
    wpAny (model P w) A (call (.builtin "sorted") [.ref a]) Q E s := by
  obtain ⟨o, ho, hex, hd⟩ := R.ob
  have hsz := R.size
  have hfew := R.few
  refine Calls.call_function_entry kind_sorted plain_sorted entry_sorted (args_sorted1 _) ?_
  unfold Builtin.«sorted»
  refine wpAny_bind (m := checkCount "sorted" 1 1 _) (wpAny_pure ?_)
  refine wpAny_bind (collect_set (A := A.in1) hh ⟨o, ho, hex.1, hd⟩ R.fits (by unfold scanBound; omega) R.tab.ris R.led fun s1 vs k1 hz g1 o1 pm => ?_)
  have hes : es.toList.map (·.2) = L.map fun q => Value.ref q.1 := by
    rw [R.rows]
    unfold rowsOf
    rw [List.map_map] <;> rfl
  rw [hes] at pm
  have ord : ∀ vs : List Value, (∀ v ∈ vs, ∃ q ∈ L, v = Value.ref q.1) → ∃ L1 : List (Addr × List Int), vs = L1.map (fun q => Value.ref q.1) ∧ ∀ q ∈ L1, q ∈ L := by
    intro vs
    induction vs with
    | nil => intro _; exact ⟨[], rfl, fun q hq => (by cases hq)⟩
    | cons v vs ih =>
      intro hv
      obtain ⟨q, hq, e⟩ := hv v List.mem_cons_self
      obtain ⟨L1, e1, hs⟩ := ih fun u hu => hv u (List.mem_cons_of_mem _ hu)
      refine ⟨q :: L1, by rw [List.map_cons, e, e1], fun r hr => ?_⟩
      rcases List.mem_cons.mp hr with z | z
      · rw [z]; exact hq
      · exact hs r z
  have one : ∀ q ∈ L, ∀ r ∈ L, q.1 = r.1 → q = r := fun q hq r hr e => by
    have a1 := R.tup q hq
    have a2 := R.tup r hr
    rw [e] at a1
    have e2 : q.2 = r.2 := a1.inj a2
    exact Prod.ext e e2
  have perm_of : ∀ L1 : List (Addr × List Int), (∀ q ∈ L1, q ∈ L) → (L1.map (fun q => Value.ref q.1)).Perm (L.map fun q => Value.ref q.1) → L1.Perm L := by
    intro L1 hs pm1
    have nL : L.Nodup := nodup_of_map R.nd
    have nref : (L.map fun q => Value.ref q.1).Nodup := by
      refine List.pairwise_map.mpr (List.Pairwise.imp_of_mem (fun {q r} hq hr hne e => ?_) nL)
      injection e with e
      exact hne (one q hq r hr e)
    have n1 : L1.Nodup := nodup_of_map (pm1.nodup_iff.mpr nref)
    refine (List.perm_ext_iff_of_nodup n1 nL).mpr fun q => ⟨hs q, fun hq => ?_⟩
    have hm : Value.ref q.1 ∈ L1.map (fun q => Value.ref q.1) := pm1.mem_iff.mpr (List.mem_map.mpr ⟨q, hq, rfl⟩)
    obtain ⟨r, hr, e⟩ := List.mem_map.mp hm
    injection e with e
    rw [← one r (hs r hr) q hq e]
    exact hr
  have hvl : vs.length < 64 := by rw [pm.length_eq, List.length_map]; exact hfew
  have hvz : vs.length ≤ sizeLine := by rw [sizeLine_eq]; omega
  refine wpAny_bind (wpAny_newList ?_ hvz)
  have hoL : (s1.heap.push (seqObj "list" vs.toArray 0)).get? s1.heap.objs.size = some (seqObj "list" vs.toArray 0) := Heap.get?_push_size _ rfl
  have tk : ∀ q ∈ L, TS.TupInts (s1.heap.push (seqObj "list" vs.toArray 0)) (.ref q.1) q.2 := fun q hq => tupInts_of (P := P) (w := w) (isT_keep (R.tup q hq) fun b u e => Heap.get?_push_of_some _ (k1 b u e))
  have x : ∀ v ∈ vs, ∃ ns, TS.TupInts (s1.heap.push (seqObj "list" vs.toArray 0)) v ns := fun v hv => by
    obtain ⟨q, hq, e⟩ := List.mem_map.mp (pm.mem_iff.mp hv)
    rw [← e]
    exact ⟨q.2, tk q hq⟩
  refine wpAny_bind (wpAny_holding (wpAny_call_entry (s := { s1 with heap := s1.heap.push (seqObj "list" vs.toArray 0) }) slot_list_sort ⟨_, hoL, rfl⟩ entry_list_sort
    (SrtO.list_sort_ord (s := { s1 with heap := s1.heap.push (seqObj "list" vs.toArray 0) }) (NtL.swo_lexL fun v => TS.intsOf (s1.heap.push (seqObj "list" vs.toArray 0)) v) hoL hvz
      (fun h2 => tups_sortable (s := { s1 with heap := s1.heap.push (seqObj "list" vs.toArray 0) }) (show A.units + 1 + 1 < cLine by omega) h2 x fun o e c => by
        rw [hoL] at e
        have e' : seqObj "list" vs.toArray 0 = o := Option.some.inj e
        rw [← e'] at c
        have c' : Value.type "list" = Value.type "tuple" := c
        injection c' with c''
        exact absurd c'' (by decide)) fun out a2 a1 => ⟨_, rfl, ?_⟩) (args_list_sort _)))
  obtain ⟨c, hc⟩ := sortedHeap_at (vs := vs) (out := out.toArray) hoL
  have a1 := a1.perm
  obtain ⟨L', e', hs'⟩ := ord out fun v hv => by
    obtain ⟨q, hq, e⟩ := List.mem_map.mp (pm.mem_iff.mp (a1.mem_iff.mp hv))
    exact ⟨q, hq, e.symm⟩
  have pL : L'.Perm L := perm_of L' hs' (by rw [← e']; exact a1.trans pm)
  have pw : L'.Pairwise (fun q r => HT.lexLt r.2 q.2 = false) := by
    rw [e'] at a2
    refine List.Pairwise.imp_of_mem (fun {q r} hq hr hle => ?_) (List.pairwise_map.mp a2)
    have f1 : TS.intsOf (s1.heap.push (seqObj "list" vs.toArray 0)) (.ref q.1) = q.2 := (tk q (hs' q hq)).ints
    have f2 : TS.intsOf (s1.heap.push (seqObj "list" vs.toArray 0)) (.ref r.1) = r.2 := (tk r (hs' r hr)).ints
    rw [← f1, ← f2]
    exact hle
  refine wpAny_pure ⟨_, rfl, hQ _ s1.heap.objs.size out.toArray c L' (fun b u e => ?_) g1 o1 hz hc (by rw [List.toList_toArray]; exact e') pL pw⟩
  have q := k1 b u e
  have hlt := Heap.lt_size q
  show (sortedHeap (s1.heap.push (seqObj "list" vs.toArray 0)) s1.heap.objs.size vs out.toArray).get? b = some u
  rw [sortedHeap_old (Nat.ne_of_lt hlt) (by rw [size_push']; exact Nat.lt_succ_of_lt hlt)]
  exact Heap.get?_push_of_some _ q
end
section
variable {X : Cx}
def rSortedTG (K : PySem.W.Frag) (P : Program) (w : World) : List V → Hp → VK → Prop := fun vs H Q => ∃ (a : Addr) (L : List (Addr × List Int)), vs = [V.ref a] ∧ H a = some (SetTO P w a L) ∧ (∀ p ∈ L, SqT K H p.1 (p.2.map V.int)) ∧
  ∀ (L' : List (Addr × List Int)) (p : Addr), L'.Perm L → (L'.map (·.2)).Nodup → L'.Pairwise (fun q r => HT.lexLt r.2 q.2 = false) → H p = none → Q (.ref p) (upd H p (.lst (L'.map fun q => V.ref q.1)))
theorem cr_sortedTG (hc : X.calm = true) (hu : X.A.units + 8 < cLine) : CallR X (.builtin "sorted") (rSortedTG X.K X.prog X.w) := by
  intro pins s σ H vs us Q I r h
  obtain ⟨a, L, rfl, ha, hk, q⟩ := h
  have R0 : SetT0 X.prog X.w s.heap a L := (I.hok a _ ha).1
  obtain ⟨es, ep, t, R⟩ := R0.full fun p hp => I.isT (hk p hp)
  rw [Vals.ref1 r]
  refine sorted_setG R (I.ok.hd hc) hu fun s' p out c L' k g o hp hg hout pm pw => ?_
  have hfew : L'.length < 64 := by rw [pm.length_eq]; exact R.few
  have hlen : (L'.map fun q => V.ref q.1).length ≤ sizeLine := by rw [List.length_map, sizeLine_eq]; omega
  have hn : H p = none := I.hok.fresh hp
  have hv : Vals (L'.map fun q => V.ref q.1) out.toList := by rw [hout]; exact vals_of_refs L'
  have J : Inv X pins σ (upd H p (.lst (L'.map fun q => V.ref q.1))) { s with heap := s'.heap, gens := s'.gens, drawn := s'.drawn, toks := s'.toks } :=
    I.call (ch := []) (Un.laid k hp hn) (I.hok.laid k hp ⟨hlen, out.toList, c, hv, hg⟩) (by rw [g]; exact I.bare) (fun _ z => nomatch z)
  have e : s' = { s with heap := s'.heap, gens := s'.gens, drawn := s'.drawn, toks := s'.toks } := by
    cases s'
    cases s
    cases o
    rfl
  rw [e]
  exact ⟨.ref p, _, J, rfl, q L' p pm ((pm.map (·.2)).nodup_iff.mpr R.nd) pw hn⟩
end
/-! ### the plain side -/
theorem ltL_eq : ∀ k j : List Int, ltL k j = HT.lexLt k j
  | [], [] => rfl
  | [], _ :: _ => rfl
  | _ :: _, [] => rfl
  | x :: k, y :: j => by rw [HT.lexLt_cons, ← ltL_eq k j]; rfl
theorem lex_tri : ∀ k j : List Int, HT.lexLt k j = false → HT.lexLt j k = false → k = j
  | [], [], _, _ => rfl
  | [], y :: j, h, _ => by rw [HT.lexLt_nil_cons] at h; cases h
  | x :: k, [], _, h => by rw [HT.lexLt_nil_cons] at h; cases h
  | x :: k, y :: j, h1, h2 => by
    rw [HT.lexLt_cons] at h1 h2
    by_cases e : x = y
    · rw [if_pos e] at h1
      rw [if_pos e.symm] at h2
      rw [e, lex_tri k j h1 h2]
    · rw [if_neg e] at h1
      rw [if_neg (Ne.symm e)] at h2
      have a := of_decide_eq_false h1
      have b := of_decide_eq_false h2
      omega
theorem insT_perm (k : List Int) : ∀ l, (insT k l).Perm (k :: l)
  | [] => List.Perm.refl _
  | j :: r => by
    unfold insT
    split
    · exact ((insT_perm k r).cons j).trans (List.Perm.swap k j r)
    · exact List.Perm.refl _
theorem sortT_perm : ∀ l, (sortT l).Perm l
  | [] => List.Perm.refl _
  | k :: r => (insT_perm k _).trans ((sortT_perm r).cons k)
theorem insT_sorted (k : List Int) : ∀ l : List (List Int), l.Pairwise (fun a b => HT.lexLt b a = false) → (insT k l).Pairwise (fun a b => HT.lexLt b a = false)
  | [], _ => by unfold insT; exact List.pairwise_singleton _ _
  | j :: r, h => by
    obtain ⟨h1, h2⟩ := List.pairwise_cons.mp h
    unfold insT
    split
    · rename_i hjk
      rw [ltL_eq] at hjk
      refine List.pairwise_cons.mpr ⟨fun b hb => ?_, insT_sorted k r h2⟩
      rcases List.mem_cons.mp ((insT_perm k r).mem_iff.mp hb) with e | hb
      · rw [e]; exact NtL.lex_asym _ _ hjk
      · exact h1 b hb
    · rename_i hjk
      rw [ltL_eq] at hjk
      have hjk : HT.lexLt j k = false := by simpa using hjk
      refine List.pairwise_cons.mpr ⟨fun b hb => ?_, h⟩
      rcases List.mem_cons.mp hb with e | hb
      · rw [e]; exact hjk
      · exact NtL.lex_tr k j b hjk (h1 b hb)
theorem sortT_sorted : ∀ l : List (List Int), (sortT l).Pairwise (fun a b => HT.lexLt b a = false)
  | [] => List.Pairwise.nil
  | k :: r => insT_sorted k _ (sortT_sorted r)
theorem dedupT_mem : ∀ (l : List (List Int)) (k : List Int), k ∈ dedupT l ↔ k ∈ l
  | [], k => Iff.rfl
  | i :: r, k => by
    unfold dedupT
    split
    · rename_i h
      rw [dedupT_mem r k]
      have hi : i ∈ r := by
        obtain ⟨x, hx, e⟩ := List.any_eq_true.mp h
        have : x = i := by simpa using e
        rw [← this]; exact hx
      constructor
      · intro h; exact List.mem_cons_of_mem _ h
      · intro h
        rcases List.mem_cons.mp h with e | h
        · rw [e]; exact hi
        · exact h
    · rw [List.mem_cons, List.mem_cons, dedupT_mem r k]
theorem dedupT_nodup : ∀ l : List (List Int), (dedupT l).Nodup
  | [] => List.nodup_nil
  | i :: r => by
    unfold dedupT
    split
    · exact dedupT_nodup r
    · rename_i h
      refine List.nodup_cons.mpr ⟨fun hm => h ?_, dedupT_nodup r⟩
      rw [dedupT_mem] at hm
      exact List.any_eq_true.mpr ⟨i, hm, by simp⟩
theorem sortT_uniq {l ks : List (List Int)} (hn : l.Nodup) (hp : l.Pairwise (fun a b => HT.lexLt b a = false)) (hm : ∀ k, k ∈ l ↔ k ∈ ks) : l = sortT (dedupT ks) := by
  refine List.Perm.eq_of_pairwise (le := fun a b => HT.lexLt b a = false) (fun a b _ _ h1 h2 => lex_tri a b h2 h1) hp (sortT_sorted _) ?_
  refine (List.perm_ext_iff_of_nodup hn ((sortT_perm _).nodup_iff.mpr (dedupT_nodup _))).mpr fun k => ?_
  rw [hm, (sortT_perm _).mem_iff, dedupT_mem]
section
variable {T : Sta} {F : Hp}
theorem tups_of : ∀ {xs : List Val} {ks : List (List Int)} {vs : List V}, tupsOf xs = some ks → Reps T F xs vs → ∃ ps : List (Addr × List Int), vs = ps.map (fun p => V.ref p.1) ∧ ps.map (·.2) = ks ∧ ∀ p ∈ ps, SqT T.K F p.1 (p.2.map V.int)
  | [], ks, vs, e, h => by
    cases e
    exact ⟨[], h, rfl, fun p hp => by cases hp⟩
  | x :: xs, ks, vs, e, ⟨v, ws, h1, h2, h3⟩ => by
    cases x <;> try (cases e)
    rename_i d ys
    simp only [tupsOf] at e
    split at e
    · rename_i is ks' e1 e2
      cases e
      obtain ⟨ps, a1, a2, a3⟩ := tups_of e2 h3
      obtain ⟨a, us, b1, b2, b3⟩ := h2
      rw [ints_of e1] at b3
      rw [Reps.ints b3] at b2
      refine ⟨(a, is) :: ps, by rw [h1, b1, a1] <;> rfl, by rw [List.map_cons, a2], fun p hp => ?_⟩
      rcases List.mem_cons.mp hp with e | hp
      · rw [e]; exact b2.1
      · exact a3 p hp
    · cases e
theorem reps_tups : ∀ {ps : List (Addr × List Int)}, (∀ p ∈ ps, SqT T.K F p.1 (p.2.map V.int)) → Reps T F ((ps.map (·.2)).map fun k => Val.tup false (k.map Val.int)) (ps.map fun p => V.ref p.1)
  | [], _ => rfl
  | p :: ps, h => ⟨.ref p.1, ps.map fun p => V.ref p.1, rfl, ⟨p.1, _, rfl, ⟨h p List.mem_cons_self, fun z => by cases z⟩, Reps.ofInts _⟩, reps_tups fun q hq => h q (List.mem_cons_of_mem _ hq)⟩
end
section
variable {X : Cx} {T : Sta} {W : WX} {Φ : Fns} {G : Nat → Option Val} {fl : Nat → List Str}
/-- sorted(set(a)) of a list of tuples of ints -/
theorem ssortsetT {a : Expr} {ea : E} {p p1 pos pos1 : Pos} (hK : X.K = T.K) (hc : X.calm = true) (hu : X.A.units + 65 < cLine) (hg : Gl X "sorted") (hm : X.mg "sorted" = none) (hg2 : Gl X "set") (hm2 : X.mg "set" = none) (ha : SO X T W Φ G fl a ea)
    (he : starEach [a] X.env = (false, eval a X.env) :: starEach [] X.env := by rfl) (hpl : (backTo pos1 (starEach [] X.env)).any (·.1) = false := by rfl)
    (he2 : starEach [.Call (.Name "set" p1) [a] [] pos1] X.env = (false, eval (.Call (.Name "set" p1) [a] [] pos1) X.env) :: starEach [] X.env := by rfl) (hpl2 : (backTo pos (starEach [] X.env)).any (·.1) = false := by rfl) :
    SE X T W Φ G fl (.Call (.Name "sorted" p) [.Call (.Name "set" p1) [a] [] pos1] [] pos) (.o1 .ssetT ea) := by
  refine (pe_callB (cr_sortedTG hc (by omega)) hg hm PyProof.Rows.boot_sorted (pa_cons (pe_callTy (cr_setOfT hc (by omega)) hg2 hm2 PyProof.Rows.boot_set (pa_cons ha pa_nil he) (by decide) (by decide) he hpl) pa_nil he2) (by decide) (by decide) he2 hpl2).imp fun σ H Q q => ?_
  have q' := tE_o1 q (r := fun v H Q => ∃ (l : Addr) (ps : List (Addr × List Int)), v = V.ref l ∧ SqL X.K H l (ps.map fun p => V.ref p.1) ∧ (∀ p ∈ ps, SqT X.K H p.1 (p.2.map V.int)) ∧ ps.length < 64 ∧
      ∀ (L L' : List (Addr × List Int)) p p2, H p = none → H p2 = none → p2 ≠ p → (∀ q ∈ L', q ∈ ps) → L'.map (·.2) = sortT (dedupT (ps.map (·.2))) → Q (.ref p2) (upd (upd H p (SetTO X.prog X.w p L)) p2 (.lst (L'.map fun q => V.ref q.1)))) fun {F H x v z Q} e h le w => by
    cases x <;> try (cases e)
    rename_i xs
    obtain ⟨a, vs, e1, h1, r⟩ := h
    simp only [op1] at e
    split at e
    · rename_i ks e2
      split at e
      · rename_i hz
        cases e
        obtain ⟨ps, p1, p2, p3⟩ := tups_of e2 r
        have hl : ps.length < 64 := by
          have := r.len
          rw [p1, List.length_map] at this
          omega
        rw [p1] at h1
        refine ⟨a, ps, e1, hK ▸ SqL.of h1, fun p hp => hK ▸ le.sqt (p3 p hp), hl, fun L L' p p2' hp hp2 hne hsub hmap => ?_⟩
        have t1 : Tr F H noO F (upd H p (SetTO X.prog X.w p L)) := Tr.newH le hp
        have hp2' : (upd H p (SetTO X.prog X.w p L)) p2' = none := by rw [upd_ne hne]; exact hp2
        have t2 := Tr.newH (o := HO.lst (L'.map fun q => V.ref q.1)) t1.fh hp2'
        rw [p2] at hmap
        exact w F _ _ (t1.trans t2 fun _ h => h.elim) ⟨p2', _, rfl, hp2, le.none_of hp2, upd_same, hmap ▸ reps_tups fun q hq => p3 q (hsub q hq)⟩
      · cases e
    · cases e
  obtain ⟨F, ρ, R, P⟩ := q'
  refine ⟨F, ρ, R, P.mono fun o ρ1 F1 H1 s k v hv => ?_⟩
  obtain ⟨l, ps, ev, hl, hps, h64, kk⟩ := k v hv
  refine ⟨l, ps, by rw [ev], hl, hps, h64, fun a L hfr hL1 hL2 => ?_⟩
  refine ⟨a, L, rfl, upd_same, fun p hp => (Le.new hfr).sqt (hps p (hL1 p hp)), fun L' p2 pm nd pw hp2 => ?_⟩
  have hne : p2 ≠ a := fun e => by rw [e, upd_same] at hp2; cases hp2
  have hsub : ∀ q ∈ L', q ∈ ps := fun q hq => hL1 q (pm.mem_iff.mp hq)
  refine kk L L' a p2 hfr (by rw [upd_ne hne] at hp2; exact hp2) hne hsub (sortT_uniq nd (List.pairwise_map.mpr pw) fun k => ⟨fun hk => ?_, fun hk => ?_⟩)
  · obtain ⟨q, hq, e⟩ := List.mem_map.mp hk
    exact List.mem_map.mpr ⟨q, hsub q hq, e⟩
  · obtain ⟨q, hq, e⟩ := List.mem_map.mp hk
    have := hL2 q hq
    rw [e] at this
    obtain ⟨r, hr, e2⟩ := List.mem_map.mp this
    exact List.mem_map.mpr ⟨r, pm.mem_iff.mpr hr, e2⟩
end
end PV
end

section
set_option Elab.async false
set_option linter.all false
set_option autoImplicit false
set_option maxRecDepth 100000
set_option maxHeartbeats 4000000
/-! PVI: a def's body met; what a text says, read off the written part. -/
namespace PV
open PySem PySem.Spec L2
/-! ### defs of a text -/
def bodyF (b : List Stmt) (i : Nat) : List Stmt := match b[i]? with | some (.FunctionDef _ _ c _ _ _ _ _ _ _) => c | _ => []
def argsF (b : List Stmt) (i : Nat) : Arguments := match b[i]? with | some (.FunctionDef _ a _ _ _ _ _ _ _ _) => a | _ => ⟨[], [], none, [], [], none, []⟩
def scopeF (b : List Stmt) (i : Nat) : Scope := match b[i]? with | some (.FunctionDef _ _ _ _ _ _ s _ _ _) => s | _ => ⟨.function, [], false, false, []⟩
def clsB (b : List Stmt) (i : Nat) : List Stmt := match b[i]? with | some (.ClassDef _ _ _ c _ _ _ _ _ _ _) => c | _ => []
def fnScopeB (N ps : List Str) (sc : Scope) : Bool :=
  decide (sc.kind = .function) && (!sc.isCoroutine && (!sc.isGenerator && (decide N.Nodup && (decide (N.take ps.length = ps) && (ps.all (fun x => decide (sc.names.lookup x = some .local) || decide (sc.names.lookup x = some .cell)) && sc.names.all fun y => decide (y.2 ≠ .free))))))
theorem fnScope_by {N ps : List Str} {sc : Scope} (h : fnScopeB N ps sc = true) : FnScope N ps sc := by
  simp only [fnScopeB, Bool.and_eq_true, decide_eq_true_eq, Bool.not_eq_true', List.all_eq_true, Bool.or_eq_true] at h
  obtain ⟨h1, h2, h3, h4, h5, h6, h7⟩ := h
  exact ⟨h1, h2, h3, h4, h5, h6, h7⟩
/-- the getter of a property -/
def prG (K : PySem.W.Frag) (p : Addr) : Addr := match PySem.W.recIn K p "property" with
  | some (.ref g :: _) => g
  | _ => 0
structure DF (K : PySem.W.Frag) (name qual : Str) (pa : Arguments) (bd : List Stmt) (sc : Scope) (ps : List Str) (f : Addr) where
  fd : FuncData
  F : FunD K name qual pa bd sc [] [] f fd
  b : Binds K fd ps []
theorem DF.of {K : PySem.W.Frag} {name qual : Str} {pa : Arguments} {bd : List Stmt} {sc : Scope} {ps : List Str} {f : Addr} (h : ∃ fd, FunD K name qual pa bd sc [] [] f fd)
    (hb : ∀ (kV doc pm : Value) (an : Option Addr) (cdv ct : Value) (us : List Value), us.length = ps.length → bindArgs (PySem.W.fnOf name qual pa bd sc Value.none kV doc pm an cdv ct) { pos := us } = pure (ps.zip us)) : Nonempty (DF K name qual pa bd sc ps f) := by
  obtain ⟨fd, F⟩ := h
  exact ⟨⟨fd, F, F.bindsN hb⟩⟩
/-! ### depth -/
theorem fnOk_zero {P : Program} {w : World} {K : PySem.W.Frag} {mg : Str → Option Value} {base : Heap} {CX : CXT} {k : Nat} {f : Addr} {fd : FuncData} {ps : List Str} {T : Sta} {D : Def} : FnOk P w K mg base CX k f fd ps (spF T D fun _ _ => .stuck) :=
  ⟨fun vs H Q E ⟨F, o, xs, _, h⟩ => h.elim, fun A outer s H args us vs Q E _ _ _ _ ⟨F, o, xs, _, h⟩ => h.elim⟩
theorem def_step {P : Program} {w : World} {K : PySem.W.Frag} {mg : Str → Option Value} {base : Heap} {name qual : Str} {pa : Arguments} {bd : List Stmt} {sc : Scope} {f : Addr} {N ps : List Str} {k : Nat} {T : Sta}
    (d : DF K name qual pa bd sc ps f) (S : FnScope N ps sc) (D : Def) {Φ : Fns} {G : Nat → Option Val} {Φf : Slot → List Val → FR} (hrun : Φf = runOne D (ex Φ G T.fields D.body)) (hN : N.length = D.ns) (hp : ps.length = D.np) (hle : D.np ≤ D.ns)
    (hb : ∀ (cdv : Value) (A : Around) (outer : List PySem.Env) (s : Shared) (H : Hp) (E : XK), Room k (cxOf (L2.CX P w) P w K mg base N qual sc f cdv A outer s H E).A → Takes (cxOf (L2.CX P w) P w K mg base N qual sc f cdv A outer s H E) (fun cls d _ H => E cls d H) →
      PassesOwn (model P w) (cxOf (L2.CX P w) P w K mg base N qual sc f cdv A outer s H E).A (cxOf (L2.CX P w) P w K mg base N qual sc f cdv A outer s H E).env (cxOf (L2.CX P w) P w K mg base N qual sc f cdv A outer s H E).xe →
      SB (cxOf (L2.CX P w) P w K mg base N qual sc f cdv A outer s H E) T D.keep (fun cls d _ H => E cls d H) Φ G T.fields bd D.body) :
    FnOk P w K mg base (L2.CX P w) (k + 1) f d.fd ps (spF T D Φf) :=
  def_ok d.F S D _ hrun hN hp hle fun cdv A outer s H E hr => hb cdv A outer s H E hr (takes_of rfl rfl rfl rfl) (passes_of rfl)
/-! ### facts -/
section
variable {K : PySem.W.Frag} {mg : Str → Option Value}
theorem kf (b : PySem.W.Frag → Bool) (e : b K = true) : b K = true := e
theorem all_at {l : List Bool} (h : l.all id = true) (i : Nat) {b : Bool} (e : l[i]? = some b := by rfl) : b = true := List.all_eq_true.mp h b (List.mem_of_getElem? e)
def dkB (K : PySem.W.Frag) (x : Str) (kvs : List (Str × Str)) : Bool := kvs.all fun p => match PySem.W.nsIn K (He.ga K x) p.1 with
  | some (some (.str y _)) => decide (y = p.2)
  | _ => false
theorem mem_lookup {kvs : List (Str × Str)} {z y : Str} (h : kvs.lookup z = some y) : (z, y) ∈ kvs := by
  induction kvs with
  | nil => cases h
  | cons p r ih =>
    obtain ⟨a, b⟩ := p
    rw [List.lookup_cons] at h
    split at h
    · rename_i e
      have e : z = a := by simpa using e
      rw [e, Option.some.inj h]
      exact List.mem_cons_self
    · exact List.mem_cons_of_mem _ (ih h)
theorem dk_ok {h : Heap} {w : World} {x : Str} {kvs : List (Str × Str)} {ks : List Str} (KX : K.In h) (G : h.Ns mainGlobals mg) (c : (He.Fa.glo x).ok K = true) (h1 : He.dicW K (He.ga K x) = some (He.keysIn w.params ks)) (h2 : dkB K x kvs = true) : DkOk K w mg x kvs := by
  refine ⟨He.glo_ok KX G c, He.dicW_ok h1, fun z y hl => ?_⟩
  have q := List.all_eq_true.mp h2 _ (mem_lookup hl)
  dsimp only at q
  split at q
  · rename_i y' t e
    exact ⟨t, by rw [e, of_decide_eq_true q]⟩
  · cases q
theorem tup_ok {T : Sta} {h : Heap} {x : Str} {is : List Int} (hK : T.K = K) (KX : K.In h) (G : h.Ns mainGlobals mg) (c : (He.Fa.glo x).ok K = true) (h1 : He.tupB K x (is.map He.Dv.int) = true) : TupG T mg x (.tup false (is.map Val.int)) := by
  refine ⟨He.ga K x, He.glo_ok KX G c, fun F => ⟨He.ga K x, is.map V.int, rfl, ⟨?_, fun z => by cases z⟩, Reps.ofInts is⟩⟩
  have q := He.tupB_ok h1 F
  rw [List.map_map] at q
  rw [hK]
  exact q
def propB (K : PySem.W.Frag) (C : Addr) (f : Str) (p g : Addr) : Bool := He.eqO (PySem.W.findIn K (.ref C) f) (some (some (.ref p))) && (He.eqO (PySem.W.specialIn K (.ref p) "__get__") (some (some (.builtin "property.__get__"))) &&
  (decide (PySem.W.takesIn K (.ref p) = some true) && (match PySem.W.recIn K p "property" with
    | some (.ref g' :: _) => decide (g' = g)
    | _ => false)))
theorem prop_ok {C : Addr} {f : Str} {p g : Addr} (h : propB K C f p g = true) : PropOf K C f p g := by
  simp only [propB, Bool.and_eq_true, decide_eq_true_eq] at h
  obtain ⟨h1, h2, h3, h4⟩ := h
  refine ⟨He.eqO_ok h1, He.eqO_ok h2, h3, ?_⟩
  split at h4
  · rename_i g' rest e
    have h4 : g' = g := by simpa using h4
    exact ⟨rest, by rw [e, h4]⟩
  · cases h4
def insB (K : PySem.W.Frag) (cl : Nat → Addr) (ncl : Nat) : Bool := (List.range ncl).all fun c =>
  (He.Fa.ok K (.glo "_") || true) && (PySem.W.plainGet K (cl c) Str.empty && (PySem.W.hasDictIn K (cl c) && (PySem.W.plainOver K (cl c) && (He.eqO (PySem.W.findIn K (.ref (cl c)) "__setattr__") (some (some (.builtin "object.__setattr__"))) &&
    (He.eqO (PySem.W.findIn K (.ref (cl c)) "__class__") (some (some (.builtin "object.__class__"))) && (He.eqO (PySem.W.specialIn K (.builtin "object.__class__") "__get__") (some (some (.builtin "getset_descriptor.__get__"))) &&
    (decide (PySem.W.takesIn K (.builtin "object.__class__") = some true) && (decide (PySem.W.mroIn K (cl c) (.type "object") = some true) &&
    ((["int", "bool", "tuple", "list", "str"] : List String).all (fun n => decide (PySem.W.kitOne K (.ref (cl c)) (.type n) = some false)) &&
    ((List.range ncl).all (fun d => decide (PySem.W.kitOne K (.ref (cl c)) (.ref (cl d)) = some (c == d))) &&
    (["NoneType", "int", "bool", "tuple", "list", "str", "set"] : List String).all (fun n => decide (PySem.W.kitOne K (.type n) (.ref (cl c)) = some false))))))))))))
theorem ins_ok {T : Sta} (h : insB T.K T.cl T.ncl = true) : InsOk T := by
  have q := fun c (hc : c < T.ncl) => List.all_eq_true.mp h c (List.mem_range.mpr hc)
  simp only [Bool.and_eq_true, decide_eq_true_eq, List.all_eq_true, List.mem_range] at q
  refine ⟨fun c hc => ?_, fun c hc => ?_, fun c d hc hd => ?_, fun d hd => ?_⟩
  · obtain ⟨_, a1, a2, a3, a4, a5, a6, a7, a8, _⟩ := q c hc
    exact ⟨⟨a1, a2, a3, He.eqO_ok a4⟩, He.eqO_ok a5, He.eqO_ok a6, a7, a8⟩
  · exact (q c hc).2.2.2.2.2.2.2.2.2.1
  · exact (q c hc).2.2.2.2.2.2.2.2.2.2.1 d hd
  · exact (q d hd).2.2.2.2.2.2.2.2.2.2.2
end
/-! ### two at once through a tuple -/
section
variable {T : Sta} {z : Bool} {W : WX} {Φ : Fns} {G : Nat → Option Val} {fl : Nat → List Str} {σ : L2.St} {H : Hp} {D : Ends}
theorem Held.up {own : Bool} {F' H' : Hp} {r : RV} {v : V} {p0 : Addr} {o : HO} (h : Held T own H F' H' r v) (h0 : H' p0 = none) : Held T own H F' (upd H' p0 o) r v := by
  cases own with
  | false => exact h
  | true =>
    obtain ⟨p, vs, xs, e, ev, a, b, c, rr⟩ := h
    exact ⟨p, vs, xs, e, ev, a, b, by rw [upd_ne (fun q => by rw [q, h0] at c; cases c)]; exact c, rr⟩
theorem tS_parT {i j : Nat} {oi oj : Bool} {e e' : E} (hi : z = false ∨ i ≠ 0) (hj : z = false ∨ j ≠ 0) (h : tS T z W (xS Φ G fl (.par i oi e j oj e')) D σ H) : tAsg (tTupD (tCons (tE T W (PV.ev Φ G fl e)) (tCons (tE T W (PV.ev Φ G fl e')) tNil))) (gT T.K (.tp [i, j])) D σ H := by
  obtain ⟨F, ρ, R, P⟩ := h
  refine ⟨F, ρ, R, (PostS.seqE (m := PV.ev Φ G fl e ρ) P).eqn.mono fun r ρ1 F1 H1 s1 ⟨e1, k1⟩ v hv => ?_⟩
  simp only [xS, PV.ex, e1, Res.bnd] at P
  have q1 := k1 F1 H1 s1
  cases es1 : slotOf oi r with
  | none => rw [es1] at q1; exact q1.elim
  | some sl1 =>
    rw [es1] at P
    obtain ⟨F1', s1', hd1⟩ := held_of R s1 hv es1
    have k1' := k1 F1' H1 s1'
    rw [es1] at k1'
    refine ⟨F1', ρ1, s1'.en, (PostS.seqE (m := PV.ev Φ G fl e' ρ1) k1').eqn.mono fun r' ρ2 F2 H2 s2 ⟨e2, k2⟩ v' hv' => ?_⟩
    simp only [e2] at P
    have q2 := k2 F2 H2 s2
    cases es2 : slotOf oj r' with
    | none => rw [es2] at q2; exact q2.elim
    | some sl2 =>
      rw [es2] at P
      obtain ⟨F2', s2', hd2⟩ := held_of s1'.en s2 hv' es2
      refine ⟨by rw [sizeLine_eq]; simp, fun p0 o0 hp0 ho0 => ⟨p0, [v, v'], rfl, .inl (.inr ⟨o0, upd_same⟩), rfl, v, [v'], rfl, v', [], rfl, rfl, ?_⟩⟩
      have s2' := s2'.newH (o := .frz o0 (.tup [v, v'])) hp0
      have hd2 := hd2.up (o := .frz o0 (.tup [v, v'])) hp0
      show D.nx ((σ.set i (some v)).set j (some v')) (upd H2 p0 (.frz o0 (.tup [v, v'])))
      generalize upd H2 p0 (.frz o0 (.tup [v, v'])) = H2 at s2' hd2 ⊢
      have no1 : ∀ p, H p = none → ¬ Own σ ρ1 p := fun p h0 ⟨k, hk⟩ => (R.own_at (s1'.sb k p hk)).1 h0
      have hd1' := hd1.step s2' no1
      have st := s1'.trans s2'
      have P' : PostS T z W F H σ ρ (.ok .nx ((ρ2.set i sl1).set j sl2)) D := P
      refine P' F2' H2 _ ?_
      cases oi with
      | false =>
        cases es1
        have sA : SteS T z F H σ ρ F2' H2 (σ.set i (some v)) (ρ2.set i (.v r.frz)) := st.toS.trans (SteS.set st.en hd1' hi)
        cases oj with
        | false => cases es2; exact sA.trans (SteS.set sA.en hd2 hj)
        | true =>
          obtain ⟨p, vs, xs, e, rfl, h0, f1, h1, rr⟩ := hd2
          subst e
          cases es2
          exact SteS.setOwn R sA (none_back s1'.tr h0) h1 f1 rr (fun ⟨k, hk⟩ => (s1'.en.own_at (s2'.sb k p (ownAt_set hk).1)).1 h0) hj
      | true =>
        obtain ⟨p, vs, xs, e, rfl, h0, f1, h1, rr⟩ := hd1'
        subst e
        cases es1
        have sA : SteS T z F H σ ρ F2' H2 (σ.set i (some (.ref p))) (ρ2.set i (.ol xs)) := SteS.setOwn R st.toS h0 h1 f1 rr (fun ⟨k, hk⟩ => (R.own_at (st.sb k p hk)).1 h0) hi
        cases oj with
        | false => cases es2; exact sA.trans (SteS.set sA.en hd2 hj)
        | true =>
          obtain ⟨p2, vs2, xs2, e, rfl, h02, f12, h12, rr2⟩ := hd2
          subst e
          cases es2
          have np : p2 ≠ p := fun z => by
            obtain ⟨p', vs', xs', e, ev, h0', f1', h1', rr'⟩ := hd1
            cases ev
            rw [z, h1'] at h02
            cases h02
          refine SteS.setOwn R sA (none_back s1'.tr h02) h12 f12 rr2 (fun ⟨k, hk⟩ => ?_) hj
          obtain ⟨s, es, eo, ez⟩ := hk
          by_cases hki : i = k
          · subst hki
            by_cases hl : i < σ.length
            · rw [List.getElem?_set_self hl] at ez
              cases ez
              exact np rfl
            · rw [List.getElem?_eq_none (by rw [List.length_set]; omega)] at ez
              cases ez
          · rw [List.getElem?_set_ne hki] at es ez
            exact (s1'.en.own_at (s2'.sb k p2 ⟨s, es, eo, ez⟩)).1 h02
end
section
variable {X : Cx} {T : Sta} {z : Bool} {W : WX} {Φ : Fns} {G : Nat → Option Val} {fl : Nat → List Str} {p : Pos}
theorem qparT {i j : Nat} {oi oj : Bool} {tg a b : Expr} {ea eb : E} {k2 : Nat} {pt2 : Pos} (hzi : z = false ∨ i ≠ 0) (hzj : z = false ∨ j ≠ 0) (ha : SE X T W Φ G fl a ea) (hb : SE X T W Φ G fl b eb) (hg : PG X tg (gT T.K (.tp [i, j])))
    (hs : swapsWithSole [tg] (.Tuple [a, b] k2 pt2) p.line X.env = pure false := by rfl) (hw : swappedStores [tg] (.Tuple [a, b] k2 pt2) X.env = pure none := by rfl)
    (h0 : (assignEach [tg] X.env).map (·.2) = [assign tg X.env] := by rfl)
    (h1 : starEach [a, b] X.env = (false, eval a X.env) :: starEach [b] X.env := by rfl) (h2 : starEach [b] X.env = (false, eval b X.env) :: starEach [] X.env := by rfl) :
    SS X T z W Φ G fl (.Assign [tg] (.Tuple [a, b] k2 pt2) p) (.par i oi ea j oj eb) :=
  (ps_asg (pe_tupD (pa_cons ha (pa_cons hb pa_nil h2) h1)) hg hs hw h0).imp fun _ _ _ h => tS_parT hzi hzj h
end
end PV
end

section
set_option Elab.async false
set_option linter.all false
set_option autoImplicit false
set_option maxRecDepth 100000
set_option maxHeartbeats 4000000
/-! PVJ: a law's own def. -/
namespace PV
open PySem PySem.Spec L2
def lawSp (K : PySem.W.Frag) : Sp := fun vs H Q _ => ∃ (a : Addr) (ns : List Int), vs = [.ref a] ∧ SqL K H a (ns.map V.int) ∧ ns.length ≤ 63 ∧ ∀ H', Q (.bl true) H'
theorem lawSp_spF {T : Sta} {D : Def} {Φf : Slot → List Val → FR} (hk : D.kind = .plain) (h : ∀ ns : List Int, ns.length ≤ 63 → Φf .un [.scr (ns.map Val.int)] = .ok (.val (.bl true)) .un) :
    ∀ (vs : List V) (H : Hp) (Q : VK) (E : XK), lawSp T.K vs H Q E → spF T D Φf vs H Q E := by
  rintro vs H Q E ⟨a, ns, rfl, hs, hl, q⟩
  refine ⟨H, .un, [.scr (ns.map Val.int)], ⟨Le.refl H, [.ref a], ⟨.ref a, [], rfl, ⟨a, ns.map V.int, rfl, hs, Reps.ofInts ns⟩, rfl⟩, by rw [hk]⟩, ?_⟩
  rw [h ns hl]
  intro F' H' v _ hv _
  have e : v = .bl true := hv
  rw [e]
  exact q H'
theorem cx_no {P : Program} {w : World} {H : Hp} {s : Shared} {e : Value} {s' : Shared} (h : L2.CX P w [] H s (fun _ _ _ => False) e s') : False := by
  obtain ⟨_, _, _, _, _, _, _, _, _, _, _, _, z⟩ := h
  exact z
end PV
end

section
set_option Elab.async false
set_option linter.all false
set_option autoImplicit false
set_option maxRecDepth 100000
set_option maxHeartbeats 4000000
namespace W54
open PySem PySem.Spec L2 PV
abbrev pw : Program := PySem.Challenge.pw_toldcounts_k54_whole_known_reports_by_ha
def top : List Stmt := pw.main.body
def G : Nat → Option Val := fun i => ([.tup false [(.int 1), (.int 10), (.int 100)], .tup false [(.int 1), (.int 13), (.int 169), (.int 2197), (.int 28561), (.int 371293), (.int 4826809)]] : List Val)[i]?
def dk_FORMS : List (Str × Str) := [("mean", "nn"), ("spread", "nn"), ("total", "s"), ("middle", "n"), ("least", "n"), ("greatest", "n"), ("holders", "ns")]
def flds : Nat → List Str := fun c => ([["own_people", "own_scale", "own_facts", "own_text"]] : List (List Str)).getD c []
def sta (K : PySem.W.Frag) : Sta := ⟨K, fun c => ([He.ga K "Report"] : List Addr).getD c 0, flds, fun _ => "given", 1⟩
def core0 : S := (.retO (.o1 .all (.comp1 [1] (.nm 1) (.iRng1 (.o2 .max (.int 2) (.o2 .min (.o1 .len (.var 0)) (.int 4)))) (.bl true) (.fcall 1 (.call 2 (.cons (.var 0) (.cons (.var 1) .nil))) .nil))))
def D0 : Def := ⟨.plain, 1, 2, core0⟩
def bd0 : List Stmt := bodyF top 86
def scp0 : Scope := scopeF top 86
def pa0 : Arguments := argsF top 86
abbrev N0 : List Str := ["_law_script", "_law_turn"]
abbrev ps0 : List Str := ["_law_script"]
theorem sc0 : FnScope N0 ps0 scp0 := fnScope_by (by decide +kernel)
abbrev ad0 (K : PySem.W.Frag) : Addr := He.ga K "law"
def core1 : S := (.seq (.par 1 false (.o2 .sub (.ocall 3 0 (.cons (.int 3) .nil)) (.int 1)) 2 false (.o2 .add (.int 1) (.ocall 3 0 (.cons (.int 8) .nil)))) (.seq (.iff (.or (.not (.call 4 (.cons (.var 1) .nil))) (.not (.call 5 (.cons (.var 1) .nil)))) (.retO (.bl false)) .nop) (.seq (.asg (.nm 3) (.mk 0 6 (.cons (.o2 .add (.int 2) (.var 2)) (.cons (.tup (.cons (.int 0) (.cons (.int 1) .nil))) (.cons (.tup (.cons (.tup (.cons (.str "total") (.cons (.tup (.cons (.int 2) (.cons (.int 2) .nil))) .nil))) .nil)) .nil))))) (.seq (.iff (.or (.o2 .ne (.call 7 (.cons (.var 3) (.cons (.int 1) .nil))) (.tup (.cons (.int 2) .nil))) (.or (.o2 .ne (.call 7 (.cons (.var 3) (.cons (.int 0) .nil))) (.tup (.cons (.var 2) .nil))) (.o2 .ne (.call 8 (.cons (.var 3) .nil)) (.o2 .add (.o2 .mul (.tup (.cons (.int 0) .nil)) (.var 2)) (.tup (.cons (.int 1) (.cons (.int 1) .nil))))))) (.retO (.bl false)) .nop) (.seq (.par 4 false (.mk 0 6 (.cons (.int 2) (.cons (.tup (.cons (.int 1) (.cons (.int 2) .nil))) (.cons (.tup .nil) .nil)))) 5 false (.mk 0 6 (.cons (.int 1) (.cons (.tup (.cons (.int 1) (.cons (.int 2) .nil))) (.cons (.tup .nil) .nil))))) (.retO (.and (.o2 .eq (.call 9 (.cons (.var 4) (.cons (.var 5) .nil))) (.tup (.cons (.int 1) (.cons (.int 2) .nil)))) (.o2 .eq (.call 9 (.cons (.var 3) (.cons (.mk 0 6 (.cons (.int 1) (.cons (.tup (.cons (.int 0) (.cons (.int 1) .nil))) (.cons (.tup (.cons (.tup (.cons (.str "least") (.cons (.int 1) .nil))) .nil)) .nil)))) .nil))) (.tup (.cons (.int 1) .nil))))))))))
def D1 : Def := ⟨.ownL, 1, 6, core1⟩
def bd1 : List Stmt := bodyF top 85
def scp1 : Scope := scopeF top 85
def pa1 : Arguments := argsF top 85
abbrev N1 : List Str := ["_law_pail_here", "_law_step", "_law_more", "_law_mine", "_law_pair", "_law_part"]
abbrev ps1 : List Str := ["_law_pail_here"]
theorem sc1 : FnScope N1 ps1 scp1 := fnScope_by (by decide +kernel)
abbrev ad1 (K : PySem.W.Frag) : Addr := He.ga K "_law_right"
def core2 : S := (.seq (.asg (.nm 2) (.o2 .add (.int 70001) (.o2 .mul (.int 9001) (.var 1)))) (.seq (.loop (.nm 3) (.iSeq (.slice (.var 0) .non (.int 12))) (.asg (.nm 2) (.o2 .mod (.o1 .int (.o2 .add (.o2 .add (.o2 .mul (.var 2) (.int 40009)) (.o2 .mod (.o1 .int (.var 3)) (.int 1000003))) (.int 29))) (.int 2147483399)))) (.seq (.asg (.nm 4) (.ite (.o2 .lt (.var 1) (.o1 .len (.var 0))) (.o1 .int (.o2 .ix (.var 0) (.var 1))) (.int 0))) (.retO (.lst (.cons (.var 2) (.cons (.ite (.or (.o2 .lt (.var 4) (.int 0)) (.o2 .ge (.var 4) (.o2 .pow (.int 10) (.int 12)))) (.o1 .abs (.var 4)) (.int 0)) .nil)))))))
def D2 : Def := ⟨.plain, 2, 5, core2⟩
def bd2 : List Stmt := bodyF top 81
def scp2 : Scope := scopeF top 81
def pa2 : Arguments := argsF top 81
abbrev N2 : List Str := ["_law_script", "_law_turn", "_law_mixed", "_law_cell", "_law_own"]
abbrev ps2 : List Str := ["_law_script", "_law_turn"]
theorem sc2 : FnScope N2 ps2 scp2 := fnScope_by (by decide +kernel)
abbrev ad2 (K : PySem.W.Frag) : Addr := He.ga K "_law_pail"
def core3 : S := (.seq (.iff (.o2 .gt (.o2 .ix (.var 0) (.int 1)) (.int 0)) (.seq (.asgT [.sub 0 1, .nm 2] (.o2 .divmod (.o2 .ix (.var 0) (.int 1)) (.var 1))) (.retO (.var 2))) .nop) (.seq (.setI 0 (.int 0) (.o2 .mod (.o1 .int (.o2 .add (.o2 .mul (.o2 .ix (.var 0) (.int 0)) (.int 48271)) (.int 11))) (.int 2147483399))) (.retO (.o2 .mod (.o1 .int (.o2 .fdiv (.o2 .ix (.var 0) (.int 0)) (.int 1013))) (.var 1)))))
def D3 : Def := ⟨.ownL, 2, 3, core3⟩
def bd3 : List Stmt := bodyF top 82
def scp3 : Scope := scopeF top 82
def pa3 : Arguments := argsF top 82
abbrev N3 : List Str := ["_law_pail_here", "_law_many", "_law_part"]
abbrev ps3 : List Str := ["_law_pail_here", "_law_many"]
theorem sc3 : FnScope N3 ps3 scp3 := fnScope_by (by decide +kernel)
abbrev ad3 (K : PySem.W.Frag) : Addr := He.ga K "_law_sup"
def core4 : S := (.seq (.par 1 false (.tup (.cons (.o2 .add (.int 1) (.var 0)) (.cons (.o2 .add (.int 5) (.var 0)) .nil))) 2 false (.o2 .add (.int 25) (.o2 .mul (.int 10) (.var 0)))) (.seq (.iff (.or (.o2 .ne (.call 10 (.cons (.int 3) (.cons (.var 1) (.cons (.var 2) (.cons (.int 1) .nil))))) (.tup .nil)) (.o2 .ne (.call 11 (.cons (.var 1) (.cons (.var 2) (.cons (.int 1) (.cons (.int 6) .nil))))) (.tup (.cons (.int 2) (.cons (.int 4) (.cons (.int 6) .nil)))))) (.retO (.bl false)) .nop) (.seq (.iff (.o2 .ne (.call 12 (.cons (.int 2) (.cons (.var 1) (.cons (.o2 .add (.int 6) (.o2 .mul (.int 2) (.var 0))) .nil)))) (.o1 .tuple (.comp1 [3] (.nm 3) (.iSeq (.lst (.cons (.int 18) (.cons (.int 20) (.cons (.int 26) .nil))))) (.bl true) (.o2 .add (.o2 .add (.var 3) (.o2 .mul (.int 12) (.var 0))) (.o2 .mul (.o2 .mul (.int 2) (.var 0)) (.var 0)))))) (.retO (.bl false)) .nop) (.seq (.asg (.nm 4) (.lst (.cons (.call 13 (.cons (.int 3) (.cons (.o2 .add (.int 8) (.o2 .mul (.int 3) (.var 0))) (.cons (.int 1) .nil)))) (.cons (.call 14 (.cons (.int 2) (.cons (.o2 .add (.int 4) (.o2 .mul (.int 2) (.var 0))) (.cons (.o2 .add (.o2 .add (.int 10) (.o2 .mul (.int 8) (.var 0))) (.o2 .mul (.o2 .mul (.int 2) (.var 0)) (.var 0))) (.cons (.int 1) .nil))))) .nil)))) (.retO (.and (.o2 .eq (.var 4) (.lst (.cons (.o2 .add (.int 27) (.o2 .mul (.int 10) (.var 0))) (.cons (.int 10) .nil)))) (.o2 .eq (.call 13 (.cons (.int 8) (.cons (.o2 .add (.int 12) (.o2 .mul (.int 8) (.var 0))) (.cons (.int 0) .nil)))) (.o2 .add (.int 2) (.var 0)))))))))
def D4 : Def := ⟨.plain, 1, 5, core4⟩
def bd4 : List Stmt := bodyF top 83
def scp4 : Scope := scopeF top 83
def pa4 : Arguments := argsF top 83
abbrev N4 : List Str := ["_law_step", "_law_scale", "_law_half", "_law_own", "_law_told"]
abbrev ps4 : List Str := ["_law_step"]
theorem sc4 : FnScope N4 ps4 scp4 := fnScope_by (by decide +kernel)
abbrev ad4 (K : PySem.W.Frag) : Addr := He.ga K "_law_means_right"
def core5 : S := (.seq (.asg (.nm 1) (.mk 0 6 (.cons (.int 5) (.cons (.tup (.cons (.o2 .add (.int 1) (.var 0)) (.cons (.o2 .add (.int 5) (.var 0)) .nil))) (.cons (.tup (.cons (.tup (.cons (.str "mean") (.cons (.int 1) (.cons (.o2 .add (.int 32) (.o2 .mul (.int 10) (.var 0))) .nil)))) .nil)) .nil))))) (.seq (.asg (.nm 2) (.lst (.cons (.o1 .tuple (.comp1 [3] (.nm 3) (.iSeq (.tup (.cons (.int 1) (.cons (.int 1) (.cons (.int 4) (.cons (.int 5) (.cons (.int 5) .nil))))))) (.bl true) (.o2 .add (.var 3) (.var 0)))) (.cons (.o1 .tuple (.comp1 [3] (.nm 3) (.iSeq (.tup (.cons (.int 3) (.cons (.int 3) (.cons (.int 3) (.cons (.int 3) (.cons (.int 4) .nil))))))) (.bl true) (.o2 .add (.var 3) (.var 0)))) .nil)))) (.seq (.iff (.o2 .ne (.lst (.cons (.call 8 (.cons (.var 1) .nil)) (.cons (.call 15 (.cons (.var 1) .nil)) (.cons (.call 16 (.cons (.var 1) .nil)) (.cons (.call 17 (.cons (.var 1) .nil)) .nil))))) (.o2 .add (.var 2) (.lst (.cons (.int 11) (.cons (.tup (.cons (.o2 .add (.int 16) (.o2 .mul (.int 5) (.var 0))) .nil)) .nil))))) (.retO (.bl false)) .nop) (.seq (.iff (.o2 .ne (.call 18 (.cons (.var 1) (.cons (.int 1) .nil))) (.o1 .tuple (.comp1 [3] (.nm 3) (.iSeq (.tup (.cons (.int 1) (.cons (.int 2) (.cons (.int 3) (.cons (.int 5) (.cons (.int 5) .nil))))))) (.bl true) (.o2 .add (.var 3) (.var 0))))) (.retO (.bl false)) .nop) (.seq (.asg (.nm 4) (.tup (.cons (.tup (.cons (.str "least") (.cons (.o2 .add (.int 3) (.var 0)) .nil))) (.cons (.tup (.cons (.str "greatest") (.cons (.o2 .add (.int 1) (.var 0)) .nil))) (.cons (.tup (.cons (.str "middle") (.cons (.o2 .add (.int 2) (.var 0)) .nil))) .nil))))) (.seq (.iff (.o2 .ne (.call 19 (.cons (.mk 0 6 (.cons (.int 2) (.cons (.tup (.cons (.o2 .add (.int 1) (.var 0)) (.cons (.o2 .add (.int 3) (.var 0)) .nil))) (.cons (.var 4) .nil)))) .nil)) (.tup (.cons (.tup (.cons (.int 0) (.cons (.int 1) .nil))) (.cons (.tup (.cons (.int 0) (.cons (.int 2) .nil))) (.cons (.tup (.cons (.int 1) (.cons (.int 2) .nil))) .nil))))) (.retO (.bl false)) .nop) (.seq (.asg (.nm 4) (.tup (.cons (.tup (.cons (.str "least") (.cons (.o2 .add (.int 3) (.var 0)) .nil))) (.cons (.tup (.cons (.str "total") (.cons (.tup (.cons (.o2 .add (.int 5) (.o2 .mul (.int 2) (.var 0))) (.cons (.o2 .add (.int 6) (.o2 .mul (.int 2) (.var 0))) .nil))) .nil))) (.cons (.tup (.cons (.str "middle") (.cons (.o2 .add (.int 3) (.var 0)) .nil))) .nil))))) (.retO (.o2 .eq (.call 20 (.cons (.mk 0 6 (.cons (.int 2) (.cons (.tup (.cons (.o2 .add (.int 1) (.var 0)) (.cons (.o2 .add (.int 3) (.var 0)) .nil))) (.cons (.var 4) .nil)))) .nil)) (.tup (.cons (.int 0) (.cons (.int 1) (.cons (.int 2) .nil)))))))))))))
def D5 : Def := ⟨.plain, 1, 5, core5⟩
def bd5 : List Stmt := bodyF top 84
def scp5 : Scope := scopeF top 84
def pa5 : Arguments := argsF top 84
abbrev N5 : List Str := ["_law_step", "_law_mine", "_law_ends", "_law_own", "_law_facts"]
abbrev ps5 : List Str := ["_law_step"]
theorem sc5 : FnScope N5 ps5 scp5 := fnScope_by (by decide +kernel)
abbrev ad5 (K : PySem.W.Frag) : Addr := He.ga K "_law_reports_right"
def core6 : S := (.seq (.expr (.call 21 (.cons (.var 1) (.cons (.int 12) .nil)))) (.seq (.expr (.call 22 (.cons (.var 2) .nil))) (.seq (.expr (.call 23 (.cons (.var 3) (.cons (.var 2) .nil)))) (.seq (.setF 0 "own_people" (.var 1)) (.seq (.setF 0 "own_scale" (.var 2)) (.seq (.setF 0 "own_facts" (.var 3)) (.seq (.asg (.nm 4) (.o2 .add (.lst (.cons (.fstr (.fcons (.str "report ") (.fcons (.var 1) (.fcons (.str " ") (.fcons (.call 24 (.cons (.var 2) .nil)) .nil))))) .nil)) (.comp1 [5] (.nm 5) (.iSeq (.var 3)) (.bl true) (.call 25 (.cons (.var 5) .nil))))) (.setF 0 "own_text" (.joinS "\n" (.var 4))))))))))
def D6 : Def := ⟨.ini, 4, 6, core6⟩
def bd6 : List Stmt := bodyF (clsB top 58) 0
def scp6 : Scope := scopeF (clsB top 58) 0
def pa6 : Arguments := argsF (clsB top 58) 0
abbrev N6 : List Str := ["self", "people", "scale", "facts", "lines", "fact"]
abbrev ps6 : List Str := ["self", "people", "scale", "facts"]
theorem sc6 : FnScope N6 ps6 scp6 := fnScope_by (by decide +kernel)
abbrev ad6 (K : PySem.W.Frag) : Addr := He.ma K (He.ga K "Report") "__init__"
def core7 : S := (.seq (.expr (.call 26 (.cons (.var 0) .nil))) (.seq (.iff (.not (.call 27 (.cons (.var 1) (.cons (.prop 0 "scale" 28 (.var 0)) .nil)))) .never .nop) (.retO (.o1 .tuple (.o1 .sset (.comp1 [2] (.nm 2) (.iSeq (.call 29 (.cons (.var 0) .nil))) (.bl true) (.count (.var 2) (.var 1))))))))
def D7 : Def := ⟨.plain, 2, 3, core7⟩
def bd7 : List Stmt := bodyF top 73
def scp7 : Scope := scopeF top 73
def pa7 : Arguments := argsF top 73
abbrev N7 : List Str := ["report", "score", "scores"]
abbrev ps7 : List Str := ["report", "score"]
theorem sc7 : FnScope N7 ps7 scp7 := fnScope_by (by decide +kernel)
abbrev ad7 (K : PySem.W.Frag) : Addr := He.ga K "holders"
def core8 : S := (.seq (.expr (.call 26 (.cons (.var 0) .nil))) (.seq (.asg (.nm 1) (.call 29 (.cons (.var 0) .nil))) (.retO (.ite (.o2 .ne (.var 1) (.lst .nil)) (.o2 .ix (.var 1) (.int 0)) .non))))
def D8 : Def := ⟨.plain, 1, 2, core8⟩
def bd8 : List Stmt := bodyF top 67
def scp8 : Scope := scopeF top 67
def pa8 : Arguments := argsF top 67
abbrev N8 : List Str := ["report", "found"]
abbrev ps8 : List Str := ["report"]
theorem sc8 : FnScope N8 ps8 scp8 := fnScope_by (by decide +kernel)
abbrev ad8 (K : PySem.W.Frag) : Addr := He.ga K "first_scores"
def core9 : S := (.seq (.expr (.call 26 (.cons (.var 0) .nil))) (.seq (.expr (.call 26 (.cons (.var 1) .nil))) (.seq (.iff (.o2 .ge (.prop 0 "people" 30 (.var 1)) (.prop 0 "people" 30 (.var 0))) .never .nop) (.seq (.iff (.o2 .ne (.prop 0 "scale" 28 (.var 1)) (.prop 0 "scale" 28 (.var 0))) .never .nop) (.seq (.par 2 false (.o2 .ix (.prop 0 "scale" 28 (.var 0)) (.int 0)) 3 true (.lst .nil)) (.seq (.asg (.nm 4) (.comp1 [5] (.nm 5) (.iSeq (.call 29 (.cons (.var 1) .nil))) (.bl true) (.call 31 (.cons (.var 5) (.cons (.var 2) .nil))))) (.seq (.asg (.nm 6) (.o1 .mset (.comp1 [5] (.nm 5) (.iSeq (.call 29 (.cons (.var 0) .nil))) (.bl true) (.call 31 (.cons (.var 5) (.cons (.var 2) .nil)))))) (.seq (.loop (.nm 5) (.iSeq (.call 32 (.cons (.o2 .sub (.prop 0 "people" 30 (.var 0)) (.prop 0 "people" 30 (.var 1))) (.cons (.prop 0 "scale" 28 (.var 0)) .nil)))) (.seq (.par 7 false (.o1 .sum (.var 5)) 8 false (.call 31 (.cons (.var 5) (.cons (.var 2) .nil)))) (.iff (.o2 .notin (.var 7) (.var 3)) (.loop (.nm 9) (.iSeq (.var 4)) (.iff (.o2 .inn (.o2 .add (.var 8) (.var 9)) (.var 6)) (.seq (.app 3 (.var 7)) .brk) .nop)) .nop))) (.retO (.o1 .tuple (.o1 .sorted (.var 3))))))))))))
def D9 : Def := ⟨.plain, 2, 10, core9⟩
def bd9 : List Stmt := bodyF top 79
def scp9 : Scope := scopeF top 79
def pa9 : Arguments := argsF top 79
abbrev N9 : List Str := ["report", "part", "low", "found", "codes", "scores", "fitting", "total", "own", "code"]
abbrev ps9 : List Str := ["report", "part"]
theorem sc9 : FnScope N9 ps9 scp9 := fnScope_by (by decide +kernel)
abbrev ad9 (K : PySem.W.Frag) : Addr := He.ga K "rest_totals"
def core10 : S := (.seq (.expr (.call 21 (.cons (.var 0) (.cons (.int 3000) .nil)))) (.seq (.expr (.call 22 (.cons (.var 1) .nil))) (.seq (.expr (.call 33 (.cons (.var 2) .nil))) (.seq (.expr (.call 34 (.cons (.var 3) .nil))) (.seq (.asg (.tp [4, 5]) (.call 35 (.cons (.var 0) (.cons (.var 1) (.cons (.var 2) (.cons (.var 3) .nil)))))) (.retO (.tupR2 (.var 4) (.o2 .add (.var 5) (.int 1)))))))))
def D10 : Def := ⟨.plain, 4, 6, core10⟩
def bd10 : List Stmt := bodyF top 48
def scp10 : Scope := scopeF top 48
def pa10 : Arguments := argsF top 48
abbrev N10 : List Str := ["people", "scale", "mean", "places", "least", "greatest"]
abbrev ps10 : List Str := ["people", "scale", "mean", "places"]
theorem sc10 : FnScope N10 ps10 scp10 := fnScope_by (by decide +kernel)
abbrev ad10 (K : PySem.W.Frag) : Addr := He.ga K "totals_for"
def core11 : S := (.seq (.expr (.call 22 (.cons (.var 0) .nil))) (.seq (.expr (.call 33 (.cons (.var 1) .nil))) (.seq (.expr (.call 34 (.cons (.var 2) .nil))) (.seq (.expr (.call 36 (.cons (.var 3) .nil))) (.seq (.own 4 (.lst .nil)) (.seq (.loop (.nm 5) (.iRng2 (.int 1) (.o2 .add (.var 3) (.int 1))) (.seq (.asg (.tp [6, 7]) (.call 35 (.cons (.var 5) (.cons (.var 0) (.cons (.var 1) (.cons (.var 2) .nil)))))) (.iff (.o2 .le (.var 6) (.var 7)) (.app 4 (.var 5)) .nop))) (.retO (.o1 .tuple (.var 4)))))))))
def D11 : Def := ⟨.plain, 4, 8, core11⟩
def bd11 : List Stmt := bodyF top 49
def scp11 : Scope := scopeF top 49
def pa11 : Arguments := argsF top 49
abbrev N11 : List Str := ["scale", "mean", "places", "most", "found", "people", "least", "greatest"]
abbrev ps11 : List Str := ["scale", "mean", "places", "most"]
theorem sc11 : FnScope N11 ps11 scp11 := fnScope_by (by decide +kernel)
abbrev ad11 (K : PySem.W.Frag) : Addr := He.ga K "people_for_mean"
def core12 : S := (.seq (.expr (.call 21 (.cons (.var 0) (.cons (.int 12) .nil)))) (.seq (.expr (.call 22 (.cons (.var 1) .nil))) (.seq (.expr (.call 33 (.cons (.var 2) .nil))) (.seq (.asg (.tp [3, 4]) (.var 1)) (.seq (.asg (.nm 5) (.lst (.cons (.tup (.cons (.int 0) (.cons (.int 0) .nil))) .nil))) (.seq (.loop (.nm 6) (.iRng1 (.var 0)) (.seq (.asg (.nm 7) (.comp2 [8, 9, 10] [10] (.tp [8, 9]) (.iSeq (.var 5)) (.bl true) (.nm 10) (.iRng2 (.var 3) (.o2 .add (.var 4) (.int 1))) (.bl true) (.tup (.cons (.o2 .add (.var 8) (.var 10)) (.cons (.o2 .add (.var 9) (.o2 .mul (.var 10) (.var 10))) .nil))))) (.asg (.nm 5) (.o1 .ssetT (.var 7))))) (.retO (.o1 .tuple (.comp1 [8, 9] (.tp [8, 9]) (.iSeq (.var 5)) (.o2 .eq (.var 8) (.var 2)) (.var 9))))))))))
def D12 : Def := ⟨.plain, 3, 11, core12⟩
def bd12 : List Stmt := bodyF top 50
def scp12 : Scope := scopeF top 50
def pa12 : Arguments := argsF top 50
abbrev N12 : List Str := ["people", "scale", "total", "low", "high", "sums", "turn", "later", "own", "more", "score"]
abbrev ps12 : List Str := ["people", "scale", "total"]
theorem sc12 : FnScope N12 ps12 scp12 := fnScope_by (by decide +kernel)
abbrev ad12 (K : PySem.W.Frag) : Addr := He.ga K "squares_for"
def core13 : S := (.seq (.expr (.call 37 (.cons (.var 0) .nil))) (.seq (.expr (.call 33 (.cons (.var 1) .nil))) (.seq (.expr (.call 34 (.cons (.var 2) .nil))) (.retO (.call 38 (.cons (.var 0) (.cons (.var 1) (.cons (.var 2) .nil))))))))
def D13 : Def := ⟨.plain, 3, 3, core13⟩
def bd13 : List Stmt := bodyF top 45
def scp13 : Scope := scopeF top 45
def pa13 : Arguments := argsF top 45
abbrev N13 : List Str := ["people", "total", "places"]
abbrev ps13 : List Str := ["people", "total", "places"]
theorem sc13 : FnScope N13 ps13 scp13 := fnScope_by (by decide +kernel)
abbrev ad13 (K : PySem.W.Frag) : Addr := He.ga K "told_mean"
def core14 : S := (.seq (.expr (.call 37 (.cons (.var 0) .nil))) (.seq (.expr (.call 33 (.cons (.var 1) .nil))) (.seq (.expr (.call 33 (.cons (.var 2) .nil))) (.seq (.iff (.o2 .lt (.o2 .mul (.var 0) (.var 2)) (.o2 .mul (.var 1) (.var 1))) .never .nop) (.seq (.expr (.call 34 (.cons (.var 3) .nil))) (.retO (.call 39 (.cons (.var 0) (.cons (.var 1) (.cons (.var 2) (.cons (.var 3) .nil)))))))))))
def D14 : Def := ⟨.plain, 4, 4, core14⟩
def bd14 : List Stmt := bodyF top 46
def scp14 : Scope := scopeF top 46
def pa14 : Arguments := argsF top 46
abbrev N14 : List Str := ["people", "total", "squares", "places"]
abbrev ps14 : List Str := ["people", "total", "squares", "places"]
theorem sc14 : FnScope N14 ps14 scp14 := fnScope_by (by decide +kernel)
abbrev ad14 (K : PySem.W.Frag) : Addr := He.ga K "told_spread"
def core15 : S := (.seq (.expr (.call 26 (.cons (.var 0) .nil))) (.seq (.asg (.nm 1) (.call 29 (.cons (.var 0) .nil))) (.retO (.ite (.o2 .ne (.var 1) (.lst .nil)) (.o2 .ix (.var 1) (.o1 .neg (.int 1))) .non))))
def D15 : Def := ⟨.plain, 1, 2, core15⟩
def bd15 : List Stmt := bodyF top 68
def scp15 : Scope := scopeF top 68
def pa15 : Arguments := argsF top 68
abbrev N15 : List Str := ["report", "found"]
abbrev ps15 : List Str := ["report"]
theorem sc15 : FnScope N15 ps15 scp15 := fnScope_by (by decide +kernel)
abbrev ad15 (K : PySem.W.Frag) : Addr := He.ga K "last_scores"
def core16 : S := (.seq (.expr (.call 26 (.cons (.var 0) .nil))) (.retO (.o1 .len (.call 29 (.cons (.var 0) .nil)))))
def D16 : Def := ⟨.plain, 1, 1, core16⟩
def bd16 : List Stmt := bodyF top 69
def scp16 : Scope := scopeF top 69
def pa16 : Arguments := argsF top 69
abbrev N16 : List Str := ["report"]
abbrev ps16 : List Str := ["report"]
theorem sc16 : FnScope N16 ps16 scp16 := fnScope_by (by decide +kernel)
abbrev ad16 (K : PySem.W.Frag) : Addr := He.ga K "scores_number"
def core17 : S := (.seq (.expr (.call 26 (.cons (.var 0) .nil))) (.retO (.o1 .tuple (.o1 .sset (.comp1 [1] (.nm 1) (.iSeq (.call 29 (.cons (.var 0) .nil))) (.bl true) (.o1 .sum (.var 1)))))))
def D17 : Def := ⟨.plain, 1, 2, core17⟩
def bd17 : List Stmt := bodyF top 74
def scp17 : Scope := scopeF top 74
def pa17 : Arguments := argsF top 74
abbrev N17 : List Str := ["report", "scores"]
abbrev ps17 : List Str := ["report"]
theorem sc17 : FnScope N17 ps17 scp17 := fnScope_by (by decide +kernel)
abbrev ad17 (K : PySem.W.Frag) : Addr := He.ga K "totals"
def core18 : S := (.seq (.expr (.call 26 (.cons (.var 0) .nil))) (.seq (.asg (.nm 2) (.call 29 (.cons (.var 0) .nil))) (.seq (.iff (.not (.call 40 (.cons (.var 1) (.cons (.int 0) (.cons (.o2 .sub (.o1 .len (.var 2)) (.int 1)) .nil))))) .never .nop) (.retO (.o2 .ix (.var 2) (.var 1))))))
def D18 : Def := ⟨.plain, 2, 3, core18⟩
def bd18 : List Stmt := bodyF top 70
def scp18 : Scope := scopeF top 70
def pa18 : Arguments := argsF top 70
abbrev N18 : List Str := ["report", "index", "found"]
abbrev ps18 : List Str := ["report", "index"]
theorem sc18 : FnScope N18 ps18 scp18 := fnScope_by (by decide +kernel)
abbrev ad18 (K : PySem.W.Frag) : Addr := He.ga K "scores_at"
def core19 : S := (.seq (.expr (.call 26 (.cons (.var 0) .nil))) (.seq (.par 1 false (.call 41 (.cons (.var 0) .nil)) 2 true (.lst .nil)) (.seq (.loop (.nm 3) (.iSeq (.call 42 (.cons (.o1 .len (.prop 0 "facts" 43 (.var 0))) .nil))) (.iff (.and (.not (.o1 .any (.comp1 [4] (.nm 4) (.iOwn 2) (.bl true) (.call 44 (.cons (.var 4) (.cons (.var 3) .nil)))))) (.not (.o1 .any (.comp1 [5] (.nm 5) (.iSeq (.var 1)) (.bl true) (.call 44 (.cons (.var 3) (.cons (.var 5) .nil))))))) (.app 2 (.var 3)) .nop)) (.retO (.o1 .tuple (.var 2))))))
def D19 : Def := ⟨.plain, 1, 6, core19⟩
def bd19 : List Stmt := bodyF top 77
def scp19 : Scope := scopeF top 77
def pa19 : Arguments := argsF top 77
abbrev N19 : List Str := ["report", "lots", "found", "clash", "least", "lot"]
abbrev ps19 : List Str := ["report"]
theorem sc19 : FnScope N19 ps19 scp19 := fnScope_by (by decide +kernel)
abbrev ad19 (K : PySem.W.Frag) : Addr := He.ga K "least_clashes"
def core20 : S := (.seq (.expr (.call 26 (.cons (.var 0) .nil))) (.seq (.asg (.tp [1, 2]) (.tup (.cons (.tupR1 (.o1 .len (.prop 0 "facts" 43 (.var 0)))) (.cons (.call 41 (.cons (.var 0) .nil)) .nil)))) (.retO (.o1 .tuple (.comp1 [3] (.nm 3) (.iSeq (.var 1)) (.o2 .notin (.o2 .add (.slice (.var 1) .non (.var 3)) (.slice (.var 1) (.o2 .add (.var 3) (.int 1)) .non)) (.var 2)) (.var 3))))))
def D20 : Def := ⟨.plain, 1, 4, core20⟩
def bd20 : List Stmt := bodyF top 76
def scp20 : Scope := scopeF top 76
def pa20 : Arguments := argsF top 76
abbrev N20 : List Str := ["report", "every", "lots", "index"]
abbrev ps20 : List Str := ["report"]
theorem sc20 : FnScope N20 ps20 scp20 := fnScope_by (by decide +kernel)
abbrev ad20 (K : PySem.W.Frag) : Addr := He.ga K "needless_facts"
def core21 : S := (.iff (.not (.call 40 (.cons (.var 0) (.cons (.int 1) (.cons (.var 1) .nil))))) .never .nop)
def D21 : Def := ⟨.plain, 2, 2, core21⟩
def bd21 : List Stmt := bodyF top 41
def scp21 : Scope := scopeF top 41
def pa21 : Arguments := argsF top 41
abbrev N21 : List Str := ["value", "most"]
abbrev ps21 : List Str := ["value", "most"]
theorem sc21 : FnScope N21 ps21 scp21 := fnScope_by (by decide +kernel)
abbrev ad21 (K : PySem.W.Frag) : Addr := He.ga K "check_people_to"
def core22 : S := (.iff (.not (.call 45 (.cons (.var 0) .nil))) .never .nop)
def D22 : Def := ⟨.plain, 1, 1, core22⟩
def bd22 : List Stmt := bodyF top 37
def scp22 : Scope := scopeF top 37
def pa22 : Arguments := argsF top 37
abbrev N22 : List Str := ["value"]
abbrev ps22 : List Str := ["value"]
theorem sc22 : FnScope N22 ps22 scp22 := fnScope_by (by decide +kernel)
abbrev ad22 (K : PySem.W.Frag) : Addr := He.ga K "check_scale"
def core23 : S := (.seq (.iff (.not (.o1 .isTup (.var 0))) .never .nop) (.loop (.tp [2, 3]) (.iEnum (.var 0)) (.iff (.or (.o2 .eq (.var 2) (.int 6)) (.not (.call 46 (.cons (.var 3) (.cons (.var 1) .nil))))) .never .nop)))
def D23 : Def := ⟨.plain, 2, 4, core23⟩
def bd23 : List Stmt := bodyF top 56
def scp23 : Scope := scopeF top 56
def pa23 : Arguments := argsF top 56
abbrev N23 : List Str := ["value", "scale", "index", "fact"]
abbrev ps23 : List Str := ["value", "scale"]
theorem sc23 : FnScope N23 ps23 scp23 := fnScope_by (by decide +kernel)
abbrev ad23 (K : PySem.W.Frag) : Addr := He.ga K "check_facts"
def core24 : S := (.seq (.asg (.tp [1, 2]) (.var 0)) (.retO (.ite (.o2 .eq (.var 1) (.var 2)) (.o1 .str (.var 1)) (.fstr (.fcons (.var 1) (.fcons (.str "-") (.fcons (.var 2) .nil)))))))
def D24 : Def := ⟨.plain, 1, 3, core24⟩
def bd24 : List Stmt := bodyF top 31
def scp24 : Scope := scopeF top 31
def pa24 : Arguments := argsF top 31
abbrev N24 : List Str := ["stretch", "low", "high"]
abbrev ps24 : List Str := ["stretch"]
theorem sc24 : FnScope N24 ps24 scp24 := fnScope_by (by decide +kernel)
abbrev ad24 (K : PySem.W.Frag) : Addr := He.ga K "written_stretch"
def core25 : S := (.seq (.asg (.nm 1) (.comp1 [2] (.nm 2) (.iSeq (.var 0)) (.bl true) (.ite (.o1 .isTup (.var 2)) (.call 24 (.cons (.var 2) .nil)) (.o1 .str (.var 2))))) (.retO (.joinS " " (.var 1))))
def D25 : Def := ⟨.plain, 1, 3, core25⟩
def bd25 : List Stmt := bodyF top 54
def scp25 : Scope := scopeF top 54
def pa25 : Arguments := argsF top 54
abbrev N25 : List Str := ["fact", "parts", "part"]
abbrev ps25 : List Str := ["fact"]
theorem sc25 : FnScope N25 ps25 scp25 := fnScope_by (by decide +kernel)
abbrev ad25 (K : PySem.W.Frag) : Addr := He.ga K "fact_text"
def core26 : S := (.iff (.not (.o1 (.isCls 0) (.var 0))) .never .nop)
def D26 : Def := ⟨.plain, 1, 1, core26⟩
def bd26 : List Stmt := bodyF top 57
def scp26 : Scope := scopeF top 57
def pa26 : Arguments := argsF top 57
abbrev N26 : List Str := ["value"]
abbrev ps26 : List Str := ["value"]
theorem sc26 : FnScope N26 ps26 scp26 := fnScope_by (by decide +kernel)
abbrev ad26 (K : PySem.W.Frag) : Addr := He.ga K "check_report"
def core27 : S := (.retO (.and (.call 47 (.cons (.var 0) .nil)) (.chain .le .le (.o2 .ix (.var 1) (.int 0)) (.var 0) (.o2 .ix (.var 1) (.int 1)))))
def D27 : Def := ⟨.plain, 2, 2, core27⟩
def bd27 : List Stmt := bodyF top 30
def scp27 : Scope := scopeF top 30
def pa27 : Arguments := argsF top 30
abbrev N27 : List Str := ["value", "stretch"]
abbrev ps27 : List Str := ["value", "stretch"]
theorem sc27 : FnScope N27 ps27 scp27 := fnScope_by (by decide +kernel)
abbrev ad27 (K : PySem.W.Frag) : Addr := He.ga K "lies_in"
def core28 : S := (.retO (.fld 0 "own_scale" (.var 0)))
def D28 : Def := ⟨.plain, 1, 1, core28⟩
def bd28 : List Stmt := bodyF (clsB top 58) 3
def scp28 : Scope := scopeF (clsB top 58) 3
def pa28 : Arguments := argsF (clsB top 58) 3
abbrev N28 : List Str := ["self"]
abbrev ps28 : List Str := ["self"]
theorem sc28 : FnScope N28 ps28 scp28 := fnScope_by (by decide +kernel)
abbrev ad28 (K : PySem.W.Frag) : Addr := prG K (He.ma K (He.ga K "Report") "scale")
def core29 : S := (.seq (.asg (.nm 1) (.prop 0 "facts" 43 (.var 0))) (.retO (.comp1 [2] (.nm 2) (.iSeq (.call 32 (.cons (.prop 0 "people" 30 (.var 0)) (.cons (.prop 0 "scale" 28 (.var 0)) .nil)))) (.call 48 (.cons (.var 1) (.cons (.var 2) .nil))) (.var 2))))
def D29 : Def := ⟨.plain, 1, 3, core29⟩
def bd29 : List Stmt := bodyF top 66
def scp29 : Scope := scopeF top 66
def pa29 : Arguments := argsF top 66
abbrev N29 : List Str := ["report", "facts", "scores"]
abbrev ps29 : List Str := ["report"]
theorem sc29 : FnScope N29 ps29 scp29 := fnScope_by (by decide +kernel)
abbrev ad29 (K : PySem.W.Frag) : Addr := He.ga K "fitting_scores"
def core30 : S := (.retO (.fld 0 "own_people" (.var 0)))
def D30 : Def := ⟨.plain, 1, 1, core30⟩
def bd30 : List Stmt := bodyF (clsB top 58) 2
def scp30 : Scope := scopeF (clsB top 58) 2
def pa30 : Arguments := argsF (clsB top 58) 2
abbrev N30 : List Str := ["self"]
abbrev ps30 : List Str := ["self"]
theorem sc30 : FnScope N30 ps30 scp30 := fnScope_by (by decide +kernel)
abbrev ad30 (K : PySem.W.Frag) : Addr := prG K (He.ma K (He.ga K "Report") "people")
def core31 : S := (.retO (.o1 .sum (.comp1 [2] (.nm 2) (.iSeq (.var 0)) (.bl true) (.o2 .ix (.glob 1) (.o2 .sub (.var 2) (.var 1))))))
def D31 : Def := ⟨.plain, 2, 3, core31⟩
def bd31 : List Stmt := bodyF top 78
def scp31 : Scope := scopeF top 78
def pa31 : Arguments := argsF top 78
abbrev N31 : List Str := ["scores", "low", "score"]
abbrev ps31 : List Str := ["scores", "low"]
theorem sc31 : FnScope N31 ps31 scp31 := fnScope_by (by decide +kernel)
abbrev ad31 (K : PySem.W.Frag) : Addr := He.ga K "code_of"
def core32 : S := (.seq (.asg (.tp [2, 3]) (.var 1)) (.seq (.asg (.nm 4) (.lst (.cons (.tup .nil) .nil))) (.seq (.loop (.nm 5) (.iRng1 (.var 0)) (.asg (.nm 4) (.comp2 [6, 7] [7] (.nm 6) (.iSeq (.var 4)) (.bl true) (.nm 7) (.iRng2 (.ite (.o2 .ne (.var 6) (.tup .nil)) (.o2 .ix (.var 6) (.o1 .neg (.int 1))) (.var 2)) (.o2 .add (.var 3) (.int 1))) (.bl true) (.tup (.star (.var 6) (.cons (.var 7) .nil)))))) (.retO (.var 4)))))
def D32 : Def := ⟨.plain, 2, 8, core32⟩
def bd32 : List Stmt := bodyF top 61
def scp32 : Scope := scopeF top 61
def pa32 : Arguments := argsF top 61
abbrev N32 : List Str := ["people", "scale", "low", "high", "found", "turn", "row", "score"]
abbrev ps32 : List Str := ["people", "scale"]
theorem sc32 : FnScope N32 ps32 scp32 := fnScope_by (by decide +kernel)
abbrev ad32 (K : PySem.W.Frag) : Addr := He.ga K "all_scores"
def core33 : S := (.iff (.not (.call 49 (.cons (.var 0) .nil))) .never .nop)
def D33 : Def := ⟨.plain, 1, 1, core33⟩
def bd33 : List Stmt := bodyF top 38
def scp33 : Scope := scopeF top 38
def pa33 : Arguments := argsF top 38
abbrev N33 : List Str := ["value"]
abbrev ps33 : List Str := ["value"]
theorem sc33 : FnScope N33 ps33 scp33 := fnScope_by (by decide +kernel)
abbrev ad33 (K : PySem.W.Frag) : Addr := He.ga K "check_total"
def core34 : S := (.iff (.not (.call 40 (.cons (.var 0) (.cons (.int 0) (.cons (.o2 .sub (.o1 .len (.glob 0)) (.int 1)) .nil))))) .never .nop)
def D34 : Def := ⟨.plain, 1, 1, core34⟩
def bd34 : List Stmt := bodyF top 42
def scp34 : Scope := scopeF top 42
def pa34 : Arguments := argsF top 42
abbrev N34 : List Str := ["value"]
abbrev ps34 : List Str := ["value"]
theorem sc34 : FnScope N34 ps34 scp34 := fnScope_by (by decide +kernel)
abbrev ad34 (K : PySem.W.Frag) : Addr := He.ga K "check_places"
def core35 : S := (.seq (.asg (.tp [4, 5]) (.var 1)) (.seq (.asg (.nm 6) (.o2 .mul (.int 2) (.o2 .ix (.glob 0) (.var 3)))) (.seq (.asg (.nm 7) (.ite (.o2 .gt (.var 2) (.int 0)) (.o1 .neg (.o2 .fdiv (.o2 .mul (.var 0) (.o2 .sub (.int 1) (.o2 .mul (.int 2) (.var 2)))) (.var 6))) (.int 0))) (.seq (.asg (.nm 8) (.o2 .fdiv (.o2 .sub (.o2 .mul (.var 0) (.o2 .add (.o2 .mul (.int 2) (.var 2)) (.int 1))) (.int 1)) (.var 6))) (.retO (.tup (.cons (.o2 .max (.o2 .mul (.var 0) (.var 4)) (.var 7)) (.cons (.o2 .min (.o2 .mul (.var 0) (.var 5)) (.var 8)) .nil))))))))
def D35 : Def := ⟨.plain, 4, 9, core35⟩
def bd35 : List Stmt := bodyF top 47
def scp35 : Scope := scopeF top 47
def pa35 : Arguments := argsF top 47
abbrev N35 : List Str := ["people", "scale", "mean", "places", "low", "high", "part", "least", "greatest"]
abbrev ps35 : List Str := ["people", "scale", "mean", "places"]
theorem sc35 : FnScope N35 ps35 scp35 := fnScope_by (by decide +kernel)
abbrev ad35 (K : PySem.W.Frag) : Addr := He.ga K "total_ends"
def core36 : S := (.iff (.not (.call 40 (.cons (.var 0) (.cons (.int 1) (.cons (.int 3000) .nil))))) .never .nop)
def D36 : Def := ⟨.plain, 1, 1, core36⟩
def bd36 : List Stmt := bodyF top 39
def scp36 : Scope := scopeF top 39
def pa36 : Arguments := argsF top 39
abbrev N36 : List Str := ["value"]
abbrev ps36 : List Str := ["value"]
theorem sc36 : FnScope N36 ps36 scp36 := fnScope_by (by decide +kernel)
abbrev ad36 (K : PySem.W.Frag) : Addr := He.ga K "check_most"
def core37 : S := (.iff (.or (.not (.call 49 (.cons (.var 0) .nil))) (.o2 .eq (.var 0) (.int 0))) .never .nop)
def D37 : Def := ⟨.plain, 1, 1, core37⟩
def bd37 : List Stmt := bodyF top 40
def scp37 : Scope := scopeF top 40
def pa37 : Arguments := argsF top 40
abbrev N37 : List Str := ["value"]
abbrev ps37 : List Str := ["value"]
theorem sc37 : FnScope N37 ps37 scp37 := fnScope_by (by decide +kernel)
abbrev ad37 (K : PySem.W.Frag) : Addr := He.ga K "check_people"
def core38 : S := (.retO (.call 50 (.cons (.o2 .mul (.o2 .ix (.glob 0) (.var 2)) (.var 1)) (.cons (.var 0) .nil))))
def D38 : Def := ⟨.plain, 3, 3, core38⟩
def bd38 : List Stmt := bodyF top 43
def scp38 : Scope := scopeF top 43
def pa38 : Arguments := argsF top 43
abbrev N38 : List Str := ["people", "total", "places"]
abbrev ps38 : List Str := ["people", "total", "places"]
theorem sc38 : FnScope N38 ps38 scp38 := fnScope_by (by decide +kernel)
abbrev ad38 (K : PySem.W.Frag) : Addr := He.ga K "mean_of"
def core39 : S := (.retO (.call 50 (.cons (.o2 .mul (.o2 .ix (.glob 0) (.var 3)) (.o2 .sub (.o2 .mul (.var 0) (.var 2)) (.o2 .mul (.var 1) (.var 1)))) (.cons (.o2 .mul (.var 0) (.var 0)) .nil))))
def D39 : Def := ⟨.plain, 4, 4, core39⟩
def bd39 : List Stmt := bodyF top 44
def scp39 : Scope := scopeF top 44
def pa39 : Arguments := argsF top 44
abbrev N39 : List Str := ["people", "total", "squares", "places"]
abbrev ps39 : List Str := ["people", "total", "squares", "places"]
theorem sc39 : FnScope N39 ps39 scp39 := fnScope_by (by decide +kernel)
abbrev ad39 (K : PySem.W.Frag) : Addr := He.ga K "spread_of"
def core40 : S := (.retO (.and (.call 47 (.cons (.var 0) .nil)) (.chain .le .le (.var 1) (.var 0) (.var 2))))
def D40 : Def := ⟨.plain, 3, 3, core40⟩
def bd40 : List Stmt := bodyF top 21
def scp40 : Scope := scopeF top 21
def pa40 : Arguments := argsF top 21
abbrev N40 : List Str := ["value", "least", "greatest"]
abbrev ps40 : List Str := ["value", "least", "greatest"]
theorem sc40 : FnScope N40 ps40 scp40 := fnScope_by (by decide +kernel)
abbrev ad40 (K : PySem.W.Frag) : Addr := He.ga K "is_within"
def core41 : S := (.seq (.asg (.tp [1, 2]) (.tup (.cons (.prop 0 "facts" 43 (.var 0)) (.cons (.call 32 (.cons (.prop 0 "people" 30 (.var 0)) (.cons (.prop 0 "scale" 28 (.var 0)) .nil))) .nil)))) (.retO (.o1 .ssetT (.comp1 [5] (.nm 5) (.iSeq (.var 2)) (.bl true) (.o1 .tuple (.comp1 [3, 4] (.tp [3, 4]) (.iEnum (.var 1)) (.call 51 (.cons (.var 4) (.cons (.var 5) .nil))) (.var 3)))))))
def D41 : Def := ⟨.plain, 1, 6, core41⟩
def bd41 : List Stmt := bodyF top 75
def scp41 : Scope := scopeF top 75
def pa41 : Arguments := argsF top 75
abbrev N41 : List Str := ["report", "facts", "rows", "k", "fact", "scores"]
abbrev ps41 : List Str := ["report"]
theorem sc41 : FnScope N41 ps41 scp41 := fnScope_by (by decide +kernel)
abbrev ad41 (K : PySem.W.Frag) : Addr := He.ga K "told_lots"
def core42 : S := (.seq (.par 1 true (.lst (.cons (.tup .nil) .nil)) 2 false (.lst (.cons (.tup .nil) .nil))) (.seq (.loop (.nm 3) (.iRng1 (.var 0)) (.seq (.own 4 (.lst .nil)) (.seq (.loop (.nm 5) (.iSeq (.var 2)) (.seq (.asg (.nm 6) (.ite (.o2 .ne (.var 5) (.tup .nil)) (.o2 .add (.o2 .ix (.var 5) (.o1 .neg (.int 1))) (.int 1)) (.int 0))) (.ext 4 (.comp1 [7] (.nm 7) (.iRng2 (.var 6) (.var 0)) (.bl true) (.tup (.star (.var 5) (.cons (.var 7) .nil))))))) (.seq (.ext 1 (.mv 4)) (.asg (.nm 2) (.var 4)))))) (.retO (.mv 1))))
def D42 : Def := ⟨.plain, 1, 8, core42⟩
def bd42 : List Stmt := bodyF top 26
def scp42 : Scope := scopeF top 26
def pa42 : Arguments := argsF top 26
abbrev N42 : List Str := ["many", "found", "front", "turn", "later", "lot", "first", "index"]
abbrev ps42 : List Str := ["many"]
theorem sc42 : FnScope N42 ps42 scp42 := fnScope_by (by decide +kernel)
abbrev ad42 (K : PySem.W.Frag) : Addr := He.ga K "lots_of"
def core43 : S := (.retO (.fld 0 "own_facts" (.var 0)))
def D43 : Def := ⟨.plain, 1, 1, core43⟩
def bd43 : List Stmt := bodyF (clsB top 58) 4
def scp43 : Scope := scopeF (clsB top 58) 4
def pa43 : Arguments := argsF (clsB top 58) 4
abbrev N43 : List Str := ["self"]
abbrev ps43 : List Str := ["self"]
theorem sc43 : FnScope N43 ps43 scp43 := fnScope_by (by decide +kernel)
abbrev ad43 (K : PySem.W.Frag) : Addr := prG K (He.ma K (He.ga K "Report") "facts")
def core44 : S := (.retO (.o1 .all (.comp1 [2] (.nm 2) (.iSeq (.var 0)) (.bl true) (.o2 .inn (.var 2) (.var 1)))))
def D44 : Def := ⟨.plain, 2, 3, core44⟩
def bd44 : List Stmt := bodyF top 27
def scp44 : Scope := scopeF top 27
def pa44 : Arguments := argsF top 27
abbrev N44 : List Str := ["lot", "other", "own"]
abbrev ps44 : List Str := ["lot", "other"]
theorem sc44 : FnScope N44 ps44 scp44 := fnScope_by (by decide +kernel)
abbrev ad44 (K : PySem.W.Frag) : Addr := He.ga K "is_part"
def core45 : S := (.retO (.and (.call 52 (.cons (.var 0) .nil)) (.o2 .le (.o2 .ix (.var 0) (.int 1)) (.int 6))))
def D45 : Def := ⟨.plain, 1, 1, core45⟩
def bd45 : List Stmt := bodyF top 36
def scp45 : Scope := scopeF top 36
def pa45 : Arguments := argsF top 36
abbrev N45 : List Str := ["value"]
abbrev ps45 : List Str := ["value"]
theorem sc45 : FnScope N45 ps45 scp45 := fnScope_by (by decide +kernel)
abbrev ad45 (K : PySem.W.Frag) : Addr := He.ga K "is_scale"
def core46 : S := (.seq (.iff (.or (.not (.o1 .isTup (.var 0))) (.or (.o2 .eq (.var 0) (.tup .nil)) (.or (.not (.o1 .isStr (.o2 .ix (.var 0) (.int 0)))) (.o1 (.dIn true dk_FORMS) (.o2 .ix (.var 0) (.int 0)))))) (.retO (.bl false)) .nop) (.seq (.asg (.nm 2) (.o2 .ix (.var 0) (.int 0))) (.seq (.iff (.o2 .ne (.o1 .len (.var 0)) (.o2 .add (.o1 .len (.o1 (.dGet dk_FORMS) (.var 2))) (.int 1))) (.retO (.bl false)) .nop) (.seq (.iff (.o2 .inn (.var 2) (.tup (.cons (.str "mean") (.cons (.str "spread") .nil)))) (.retO (.and (.call 40 (.cons (.o2 .ix (.var 0) (.int 1)) (.cons (.int 0) (.cons (.o2 .sub (.o1 .len (.glob 0)) (.int 1)) .nil)))) (.call 49 (.cons (.o2 .ix (.var 0) (.int 2)) .nil)))) .nop) (.seq (.iff (.o2 .eq (.var 2) (.str "total")) (.retO (.call 52 (.cons (.o2 .ix (.var 0) (.int 1)) .nil))) .nop) (.retO (.and (.call 27 (.cons (.o2 .ix (.var 0) (.int 1)) (.cons (.var 1) .nil))) (.or (.o2 .ne (.var 2) (.str "holders")) (.call 52 (.cons (.o2 .ix (.var 0) (.int 2)) .nil))))))))))
def D46 : Def := ⟨.plain, 2, 3, core46⟩
def bd46 : List Stmt := bodyF top 53
def scp46 : Scope := scopeF top 53
def pa46 : Arguments := argsF top 53
abbrev N46 : List Str := ["value", "scale", "word"]
abbrev ps46 : List Str := ["value", "scale"]
theorem sc46 : FnScope N46 ps46 scp46 := fnScope_by (by decide +kernel)
abbrev ad46 (K : PySem.W.Frag) : Addr := He.ga K "is_fact"
def core47 : S := (.retO (.and (.o1 .isInt (.var 0)) (.not (.o1 .isBool (.var 0)))))
def D47 : Def := ⟨.plain, 1, 1, core47⟩
def bd47 : List Stmt := bodyF top 20
def scp47 : Scope := scopeF top 20
def pa47 : Arguments := argsF top 20
abbrev N47 : List Str := ["value"]
abbrev ps47 : List Str := ["value"]
theorem sc47 : FnScope N47 ps47 scp47 := fnScope_by (by decide +kernel)
abbrev ad47 (K : PySem.W.Frag) : Addr := He.ga K "is_integer"
def core48 : S := (.seq (.loop (.nm 2) (.iSeq (.var 0)) (.iff (.not (.call 51 (.cons (.var 2) (.cons (.var 1) .nil)))) (.retO (.bl false)) .nop)) (.retO (.bl true)))
def D48 : Def := ⟨.plain, 2, 3, core48⟩
def bd48 : List Stmt := bodyF top 65
def scp48 : Scope := scopeF top 65
def pa48 : Arguments := argsF top 65
abbrev N48 : List Str := ["facts", "scores", "fact"]
abbrev ps48 : List Str := ["facts", "scores"]
theorem sc48 : FnScope N48 ps48 scp48 := fnScope_by (by decide +kernel)
abbrev ad48 (K : PySem.W.Frag) : Addr := He.ga K "are_told"
def core49 : S := (.retO (.and (.call 47 (.cons (.var 0) .nil)) (.o2 .ge (.var 0) (.int 0))))
def D49 : Def := ⟨.plain, 1, 1, core49⟩
def bd49 : List Stmt := bodyF top 22
def scp49 : Scope := scopeF top 22
def pa49 : Arguments := argsF top 22
abbrev N49 : List Str := ["value"]
abbrev ps49 : List Str := ["value"]
theorem sc49 : FnScope N49 ps49 scp49 := fnScope_by (by decide +kernel)
abbrev ad49 (K : PySem.W.Frag) : Addr := He.ga K "is_natural"
def core50 : S := (.retO (.o2 .fdiv (.o2 .add (.o2 .mul (.int 2) (.var 0)) (.var 1)) (.o2 .mul (.int 2) (.var 1))))
def D50 : Def := ⟨.plain, 2, 2, core50⟩
def bd50 : List Stmt := bodyF top 25
def scp50 : Scope := scopeF top 25
def pa50 : Arguments := argsF top 25
abbrev N50 : List Str := ["top", "bottom"]
abbrev ps50 : List Str := ["top", "bottom"]
theorem sc50 : FnScope N50 ps50 scp50 := fnScope_by (by decide +kernel)
abbrev ad50 (K : PySem.W.Frag) : Addr := He.ga K "next_whole"
def core51 : S := (.seq (.par 2 false (.o2 .ix (.var 0) (.int 0)) 3 false (.o1 .len (.var 1))) (.seq (.iff (.o2 .eq (.var 2) (.str "mean")) (.retO (.o2 .eq (.call 38 (.cons (.var 3) (.cons (.o1 .sum (.var 1)) (.cons (.o2 .ix (.var 0) (.int 1)) .nil)))) (.o2 .ix (.var 0) (.int 2)))) .nop) (.seq (.iff (.o2 .eq (.var 2) (.str "spread")) (.retO (.o2 .eq (.call 39 (.cons (.var 3) (.cons (.o1 .sum (.var 1)) (.cons (.call 53 (.cons (.var 1) .nil)) (.cons (.o2 .ix (.var 0) (.int 1)) .nil))))) (.o2 .ix (.var 0) (.int 2)))) .nop) (.seq (.iff (.o2 .eq (.var 2) (.str "total")) (.retO (.call 27 (.cons (.o1 .sum (.var 1)) (.cons (.o2 .ix (.var 0) (.int 1)) .nil)))) .nop) (.seq (.iff (.o2 .eq (.var 2) (.str "middle")) (.retO (.o2 .eq (.call 54 (.cons (.var 1) .nil)) (.o2 .ix (.var 0) (.int 1)))) .nop) (.seq (.iff (.o2 .eq (.var 2) (.str "least")) (.retO (.o2 .eq (.o2 .ix (.var 1) (.int 0)) (.o2 .ix (.var 0) (.int 1)))) .nop) (.seq (.iff (.o2 .eq (.var 2) (.str "greatest")) (.retO (.o2 .eq (.o2 .ix (.var 1) (.o1 .neg (.int 1))) (.o2 .ix (.var 0) (.int 1)))) .nop) (.retO (.call 27 (.cons (.count (.var 1) (.o2 .ix (.var 0) (.int 1))) (.cons (.o2 .ix (.var 0) (.int 2)) .nil)))))))))))
def D51 : Def := ⟨.plain, 2, 4, core51⟩
def bd51 : List Stmt := bodyF top 62
def scp51 : Scope := scopeF top 62
def pa51 : Arguments := argsF top 62
abbrev N51 : List Str := ["fact", "scores", "word", "people"]
abbrev ps51 : List Str := ["fact", "scores"]
theorem sc51 : FnScope N51 ps51 scp51 := fnScope_by (by decide +kernel)
abbrev ad51 (K : PySem.W.Frag) : Addr := He.ga K "is_told"
def core52 : S := (.seq (.iff (.or (.not (.call 55 (.cons (.var 0) (.cons (.int 2) .nil)))) (.not (.o1 .all (.comp1 [1] (.nm 1) (.iSeq (.var 0)) (.bl true) (.call 40 (.cons (.var 1) (.cons (.int 0) (.cons (.int 4000) .nil)))))))) (.retO (.bl false)) .nop) (.retO (.o2 .le (.o2 .ix (.var 0) (.int 0)) (.o2 .ix (.var 0) (.int 1)))))
def D52 : Def := ⟨.plain, 1, 2, core52⟩
def bd52 : List Stmt := bodyF top 29
def scp52 : Scope := scopeF top 29
def pa52 : Arguments := argsF top 29
abbrev N52 : List Str := ["value", "end"]
abbrev ps52 : List Str := ["value"]
theorem sc52 : FnScope N52 ps52 scp52 := fnScope_by (by decide +kernel)
abbrev ad52 (K : PySem.W.Frag) : Addr := He.ga K "is_stretch"
def core53 : S := (.retO (.o1 .sum (.comp1 [1] (.nm 1) (.iSeq (.var 0)) (.bl true) (.o2 .mul (.var 1) (.var 1)))))
def D53 : Def := ⟨.plain, 1, 2, core53⟩
def bd53 : List Stmt := bodyF top 63
def scp53 : Scope := scopeF top 63
def pa53 : Arguments := argsF top 63
abbrev N53 : List Str := ["scores", "score"]
abbrev ps53 : List Str := ["scores"]
theorem sc53 : FnScope N53 ps53 scp53 := fnScope_by (by decide +kernel)
abbrev ad53 (K : PySem.W.Frag) : Addr := He.ga K "squares_of"
def core54 : S := (.retO (.o2 .ix (.var 0) (.o2 .fdiv (.o2 .sub (.o1 .len (.var 0)) (.int 1)) (.int 2))))
def D54 : Def := ⟨.plain, 1, 1, core54⟩
def bd54 : List Stmt := bodyF top 64
def scp54 : Scope := scopeF top 64
def pa54 : Arguments := argsF top 64
abbrev N54 : List Str := ["scores"]
abbrev ps54 : List Str := ["scores"]
theorem sc54 : FnScope N54 ps54 scp54 := fnScope_by (by decide +kernel)
abbrev ad54 (K : PySem.W.Frag) : Addr := He.ga K "middle_of"
def core55 : S := (.retO (.and (.o1 .isTup (.var 0)) (.o2 .eq (.o1 .len (.var 0)) (.var 1))))
def D55 : Def := ⟨.plain, 2, 2, core55⟩
def bd55 : List Stmt := bodyF top 23
def scp55 : Scope := scopeF top 23
def pa55 : Arguments := argsF top 23
abbrev N55 : List Str := ["value", "many"]
abbrev ps55 : List Str := ["value", "many"]
theorem sc55 : FnScope N55 ps55 scp55 := fnScope_by (by decide +kernel)
abbrev ad55 (K : PySem.W.Frag) : Addr := He.ga K "is_tuple_of"
def defs : List Def := [D0, D1, D2, D3, D4, D5, D6, D7, D8, D9, D10, D11, D12, D13, D14, D15, D16, D17, D18, D19, D20, D21, D22, D23, D24, D25, D26, D27, D28, D29, D30, D31, D32, D33, D34, D35, D36, D37, D38, D39, D40, D41, D42, D43, D44, D45, D46, D47, D48, D49, D50, D51, D52, D53, D54, D55]
structure Fx (w : World) (K : PySem.W.Frag) (mg : Str → Option Value) where
  d0 : DF K "law" "law" pa0 bd0 scp0 ps0 (ad0 K)
  m0 : mg "law" = some (.ref (ad0 K))
  d1 : DF K "_law_right" "_law_right" pa1 bd1 scp1 ps1 (ad1 K)
  m1 : mg "_law_right" = some (.ref (ad1 K))
  d2 : DF K "_law_pail" "_law_pail" pa2 bd2 scp2 ps2 (ad2 K)
  m2 : mg "_law_pail" = some (.ref (ad2 K))
  d3 : DF K "_law_sup" "_law_sup" pa3 bd3 scp3 ps3 (ad3 K)
  m3 : mg "_law_sup" = some (.ref (ad3 K))
  d4 : DF K "_law_means_right" "_law_means_right" pa4 bd4 scp4 ps4 (ad4 K)
  m4 : mg "_law_means_right" = some (.ref (ad4 K))
  d5 : DF K "_law_reports_right" "_law_reports_right" pa5 bd5 scp5 ps5 (ad5 K)
  m5 : mg "_law_reports_right" = some (.ref (ad5 K))
  d6 : DF K "__init__" "Report.__init__" pa6 bd6 scp6 ps6 (ad6 K)
  d7 : DF K "holders" "holders" pa7 bd7 scp7 ps7 (ad7 K)
  m7 : mg "holders" = some (.ref (ad7 K))
  d8 : DF K "first_scores" "first_scores" pa8 bd8 scp8 ps8 (ad8 K)
  m8 : mg "first_scores" = some (.ref (ad8 K))
  d9 : DF K "rest_totals" "rest_totals" pa9 bd9 scp9 ps9 (ad9 K)
  m9 : mg "rest_totals" = some (.ref (ad9 K))
  d10 : DF K "totals_for" "totals_for" pa10 bd10 scp10 ps10 (ad10 K)
  m10 : mg "totals_for" = some (.ref (ad10 K))
  d11 : DF K "people_for_mean" "people_for_mean" pa11 bd11 scp11 ps11 (ad11 K)
  m11 : mg "people_for_mean" = some (.ref (ad11 K))
  d12 : DF K "squares_for" "squares_for" pa12 bd12 scp12 ps12 (ad12 K)
  m12 : mg "squares_for" = some (.ref (ad12 K))
  d13 : DF K "told_mean" "told_mean" pa13 bd13 scp13 ps13 (ad13 K)
  m13 : mg "told_mean" = some (.ref (ad13 K))
  d14 : DF K "told_spread" "told_spread" pa14 bd14 scp14 ps14 (ad14 K)
  m14 : mg "told_spread" = some (.ref (ad14 K))
  d15 : DF K "last_scores" "last_scores" pa15 bd15 scp15 ps15 (ad15 K)
  m15 : mg "last_scores" = some (.ref (ad15 K))
  d16 : DF K "scores_number" "scores_number" pa16 bd16 scp16 ps16 (ad16 K)
  m16 : mg "scores_number" = some (.ref (ad16 K))
  d17 : DF K "totals" "totals" pa17 bd17 scp17 ps17 (ad17 K)
  m17 : mg "totals" = some (.ref (ad17 K))
  d18 : DF K "scores_at" "scores_at" pa18 bd18 scp18 ps18 (ad18 K)
  m18 : mg "scores_at" = some (.ref (ad18 K))
  d19 : DF K "least_clashes" "least_clashes" pa19 bd19 scp19 ps19 (ad19 K)
  m19 : mg "least_clashes" = some (.ref (ad19 K))
  d20 : DF K "needless_facts" "needless_facts" pa20 bd20 scp20 ps20 (ad20 K)
  m20 : mg "needless_facts" = some (.ref (ad20 K))
  d21 : DF K "check_people_to" "check_people_to" pa21 bd21 scp21 ps21 (ad21 K)
  m21 : mg "check_people_to" = some (.ref (ad21 K))
  d22 : DF K "check_scale" "check_scale" pa22 bd22 scp22 ps22 (ad22 K)
  m22 : mg "check_scale" = some (.ref (ad22 K))
  d23 : DF K "check_facts" "check_facts" pa23 bd23 scp23 ps23 (ad23 K)
  m23 : mg "check_facts" = some (.ref (ad23 K))
  d24 : DF K "written_stretch" "written_stretch" pa24 bd24 scp24 ps24 (ad24 K)
  m24 : mg "written_stretch" = some (.ref (ad24 K))
  d25 : DF K "fact_text" "fact_text" pa25 bd25 scp25 ps25 (ad25 K)
  m25 : mg "fact_text" = some (.ref (ad25 K))
  d26 : DF K "check_report" "check_report" pa26 bd26 scp26 ps26 (ad26 K)
  m26 : mg "check_report" = some (.ref (ad26 K))
  d27 : DF K "lies_in" "lies_in" pa27 bd27 scp27 ps27 (ad27 K)
  m27 : mg "lies_in" = some (.ref (ad27 K))
  d28 : DF K "scale" "Report.scale" pa28 bd28 scp28 ps28 (ad28 K)
  d29 : DF K "fitting_scores" "fitting_scores" pa29 bd29 scp29 ps29 (ad29 K)
  m29 : mg "fitting_scores" = some (.ref (ad29 K))
  d30 : DF K "people" "Report.people" pa30 bd30 scp30 ps30 (ad30 K)
  d31 : DF K "code_of" "code_of" pa31 bd31 scp31 ps31 (ad31 K)
  m31 : mg "code_of" = some (.ref (ad31 K))
  d32 : DF K "all_scores" "all_scores" pa32 bd32 scp32 ps32 (ad32 K)
  m32 : mg "all_scores" = some (.ref (ad32 K))
  d33 : DF K "check_total" "check_total" pa33 bd33 scp33 ps33 (ad33 K)
  m33 : mg "check_total" = some (.ref (ad33 K))
  d34 : DF K "check_places" "check_places" pa34 bd34 scp34 ps34 (ad34 K)
  m34 : mg "check_places" = some (.ref (ad34 K))
  d35 : DF K "total_ends" "total_ends" pa35 bd35 scp35 ps35 (ad35 K)
  m35 : mg "total_ends" = some (.ref (ad35 K))
  d36 : DF K "check_most" "check_most" pa36 bd36 scp36 ps36 (ad36 K)
  m36 : mg "check_most" = some (.ref (ad36 K))
  d37 : DF K "check_people" "check_people" pa37 bd37 scp37 ps37 (ad37 K)
  m37 : mg "check_people" = some (.ref (ad37 K))
  d38 : DF K "mean_of" "mean_of" pa38 bd38 scp38 ps38 (ad38 K)
  m38 : mg "mean_of" = some (.ref (ad38 K))
  d39 : DF K "spread_of" "spread_of" pa39 bd39 scp39 ps39 (ad39 K)
  m39 : mg "spread_of" = some (.ref (ad39 K))
  d40 : DF K "is_within" "is_within" pa40 bd40 scp40 ps40 (ad40 K)
  m40 : mg "is_within" = some (.ref (ad40 K))
  d41 : DF K "told_lots" "told_lots" pa41 bd41 scp41 ps41 (ad41 K)
  m41 : mg "told_lots" = some (.ref (ad41 K))
  d42 : DF K "lots_of" "lots_of" pa42 bd42 scp42 ps42 (ad42 K)
  m42 : mg "lots_of" = some (.ref (ad42 K))
  d43 : DF K "facts" "Report.facts" pa43 bd43 scp43 ps43 (ad43 K)
  d44 : DF K "is_part" "is_part" pa44 bd44 scp44 ps44 (ad44 K)
  m44 : mg "is_part" = some (.ref (ad44 K))
  d45 : DF K "is_scale" "is_scale" pa45 bd45 scp45 ps45 (ad45 K)
  m45 : mg "is_scale" = some (.ref (ad45 K))
  d46 : DF K "is_fact" "is_fact" pa46 bd46 scp46 ps46 (ad46 K)
  m46 : mg "is_fact" = some (.ref (ad46 K))
  d47 : DF K "is_integer" "is_integer" pa47 bd47 scp47 ps47 (ad47 K)
  m47 : mg "is_integer" = some (.ref (ad47 K))
  d48 : DF K "are_told" "are_told" pa48 bd48 scp48 ps48 (ad48 K)
  m48 : mg "are_told" = some (.ref (ad48 K))
  d49 : DF K "is_natural" "is_natural" pa49 bd49 scp49 ps49 (ad49 K)
  m49 : mg "is_natural" = some (.ref (ad49 K))
  d50 : DF K "next_whole" "next_whole" pa50 bd50 scp50 ps50 (ad50 K)
  m50 : mg "next_whole" = some (.ref (ad50 K))
  d51 : DF K "is_told" "is_told" pa51 bd51 scp51 ps51 (ad51 K)
  m51 : mg "is_told" = some (.ref (ad51 K))
  d52 : DF K "is_stretch" "is_stretch" pa52 bd52 scp52 ps52 (ad52 K)
  m52 : mg "is_stretch" = some (.ref (ad52 K))
  d53 : DF K "squares_of" "squares_of" pa53 bd53 scp53 ps53 (ad53 K)
  m53 : mg "squares_of" = some (.ref (ad53 K))
  d54 : DF K "middle_of" "middle_of" pa54 bd54 scp54 ps54 (ad54 K)
  m54 : mg "middle_of" = some (.ref (ad54 K))
  d55 : DF K "is_tuple_of" "is_tuple_of" pa55 bd55 scp55 ps55 (ad55 K)
  m55 : mg "is_tuple_of" = some (.ref (ad55 K))
  z_abs : mg "abs" = none
  z_all : mg "all" = none
  z_any : mg "any" = none
  z_bool : mg "bool" = none
  z_divmod : mg "divmod" = none
  z_enumerate : mg "enumerate" = none
  z_int : mg "int" = none
  z_isinstance : mg "isinstance" = none
  z_len : mg "len" = none
  z_max : mg "max" = none
  z_min : mg "min" = none
  z_range : mg "range" = none
  z_set : mg "set" = none
  z_sorted : mg "sorted" = none
  z_str : mg "str" = none
  z_sum : mg "sum" = none
  z_tuple : mg "tuple" = none
  c_FORMS : DkOk K w mg "FORMS" dk_FORMS
  c_MOST_AVERAGED : ∃ t, mg "MOST_AVERAGED" = some (.int 3000 t)
  c_MOST_FACTS : ∃ t, mg "MOST_FACTS" = some (.int 6 t)
  c_MOST_NUMBER : ∃ t, mg "MOST_NUMBER" = some (.int 4000 t)
  c_MOST_PEOPLE : ∃ t, mg "MOST_PEOPLE" = some (.int 12 t)
  c_MOST_SCORE : ∃ t, mg "MOST_SCORE" = some (.int 6 t)
  c_PARTS : TupG (sta K) mg "PARTS" (.tup false [(.int 1), (.int 10), (.int 100)])
  c_WEIGHTS : TupG (sta K) mg "WEIGHTS" (.tup false [(.int 1), (.int 13), (.int 169), (.int 2197), (.int 28561), (.int 371293), (.int 4826809)])
  m_Report : mg "Report" = some (.ref ((sta K).cl 0))
  mk_Report : Mk K ((sta K).cl 0) (ad6 K)
  cls_Report : Cls K ((sta K).cl 0)
  na_Report_own_people : NoAttr K ((sta K).cl 0) "own_people"
  na_Report_own_scale : NoAttr K ((sta K).cl 0) "own_scale"
  na_Report_own_facts : NoAttr K ((sta K).cl 0) "own_facts"
  na_Report_own_text : NoAttr K ((sta K).cl 0) "own_text"
  pr_Report_people : PropOf K ((sta K).cl 0) "people" (He.ma K (He.ga K "Report") "people") (ad30 K)
  pr_Report_scale : PropOf K ((sta K).cl 0) "scale" (He.ma K (He.ga K "Report") "scale") (ad28 K)
  pr_Report_facts : PropOf K ((sta K).cl 0) "facts" (He.ma K (He.ga K "Report") "facts") (ad43 K)
  ins : InsOk (sta K)
structure Ok (P : Program) (w : World) (K : PySem.W.Frag) (mg : Str → Option Value) (base : Heap) (X : Fx w K mg) (d : Nat) : Prop where
  o0 : FnOk P w K mg base (L2.CX P w) (3 * d) (ad0 K) X.d0.fd ps0 (spF (sta K) D0 (run G flds defs d 0))
  o1 : FnOk P w K mg base (L2.CX P w) (3 * d) (ad1 K) X.d1.fd ps1 (spF (sta K) D1 (run G flds defs d 1))
  o2 : FnOk P w K mg base (L2.CX P w) (3 * d) (ad2 K) X.d2.fd ps2 (spF (sta K) D2 (run G flds defs d 2))
  o3 : FnOk P w K mg base (L2.CX P w) (3 * d) (ad3 K) X.d3.fd ps3 (spF (sta K) D3 (run G flds defs d 3))
  o4 : FnOk P w K mg base (L2.CX P w) (3 * d) (ad4 K) X.d4.fd ps4 (spF (sta K) D4 (run G flds defs d 4))
  o5 : FnOk P w K mg base (L2.CX P w) (3 * d) (ad5 K) X.d5.fd ps5 (spF (sta K) D5 (run G flds defs d 5))
  o6 : FnOk P w K mg base (L2.CX P w) (3 * d) (ad6 K) X.d6.fd ps6 (spF (sta K) D6 (run G flds defs d 6))
  o7 : FnOk P w K mg base (L2.CX P w) (3 * d) (ad7 K) X.d7.fd ps7 (spF (sta K) D7 (run G flds defs d 7))
  o8 : FnOk P w K mg base (L2.CX P w) (3 * d) (ad8 K) X.d8.fd ps8 (spF (sta K) D8 (run G flds defs d 8))
  o9 : FnOk P w K mg base (L2.CX P w) (3 * d) (ad9 K) X.d9.fd ps9 (spF (sta K) D9 (run G flds defs d 9))
  o10 : FnOk P w K mg base (L2.CX P w) (3 * d) (ad10 K) X.d10.fd ps10 (spF (sta K) D10 (run G flds defs d 10))
  o11 : FnOk P w K mg base (L2.CX P w) (3 * d) (ad11 K) X.d11.fd ps11 (spF (sta K) D11 (run G flds defs d 11))
  o12 : FnOk P w K mg base (L2.CX P w) (3 * d) (ad12 K) X.d12.fd ps12 (spF (sta K) D12 (run G flds defs d 12))
  o13 : FnOk P w K mg base (L2.CX P w) (3 * d) (ad13 K) X.d13.fd ps13 (spF (sta K) D13 (run G flds defs d 13))
  o14 : FnOk P w K mg base (L2.CX P w) (3 * d) (ad14 K) X.d14.fd ps14 (spF (sta K) D14 (run G flds defs d 14))
  o15 : FnOk P w K mg base (L2.CX P w) (3 * d) (ad15 K) X.d15.fd ps15 (spF (sta K) D15 (run G flds defs d 15))
  o16 : FnOk P w K mg base (L2.CX P w) (3 * d) (ad16 K) X.d16.fd ps16 (spF (sta K) D16 (run G flds defs d 16))
  o17 : FnOk P w K mg base (L2.CX P w) (3 * d) (ad17 K) X.d17.fd ps17 (spF (sta K) D17 (run G flds defs d 17))
  o18 : FnOk P w K mg base (L2.CX P w) (3 * d) (ad18 K) X.d18.fd ps18 (spF (sta K) D18 (run G flds defs d 18))
  o19 : FnOk P w K mg base (L2.CX P w) (3 * d) (ad19 K) X.d19.fd ps19 (spF (sta K) D19 (run G flds defs d 19))
  o20 : FnOk P w K mg base (L2.CX P w) (3 * d) (ad20 K) X.d20.fd ps20 (spF (sta K) D20 (run G flds defs d 20))
  o21 : FnOk P w K mg base (L2.CX P w) (3 * d) (ad21 K) X.d21.fd ps21 (spF (sta K) D21 (run G flds defs d 21))
  o22 : FnOk P w K mg base (L2.CX P w) (3 * d) (ad22 K) X.d22.fd ps22 (spF (sta K) D22 (run G flds defs d 22))
  o23 : FnOk P w K mg base (L2.CX P w) (3 * d) (ad23 K) X.d23.fd ps23 (spF (sta K) D23 (run G flds defs d 23))
  o24 : FnOk P w K mg base (L2.CX P w) (3 * d) (ad24 K) X.d24.fd ps24 (spF (sta K) D24 (run G flds defs d 24))
  o25 : FnOk P w K mg base (L2.CX P w) (3 * d) (ad25 K) X.d25.fd ps25 (spF (sta K) D25 (run G flds defs d 25))
  o26 : FnOk P w K mg base (L2.CX P w) (3 * d) (ad26 K) X.d26.fd ps26 (spF (sta K) D26 (run G flds defs d 26))
  o27 : FnOk P w K mg base (L2.CX P w) (3 * d) (ad27 K) X.d27.fd ps27 (spF (sta K) D27 (run G flds defs d 27))
  o28 : FnOk P w K mg base (L2.CX P w) (3 * d) (ad28 K) X.d28.fd ps28 (spF (sta K) D28 (run G flds defs d 28))
  o29 : FnOk P w K mg base (L2.CX P w) (3 * d) (ad29 K) X.d29.fd ps29 (spF (sta K) D29 (run G flds defs d 29))
  o30 : FnOk P w K mg base (L2.CX P w) (3 * d) (ad30 K) X.d30.fd ps30 (spF (sta K) D30 (run G flds defs d 30))
  o31 : FnOk P w K mg base (L2.CX P w) (3 * d) (ad31 K) X.d31.fd ps31 (spF (sta K) D31 (run G flds defs d 31))
  o32 : FnOk P w K mg base (L2.CX P w) (3 * d) (ad32 K) X.d32.fd ps32 (spF (sta K) D32 (run G flds defs d 32))
  o33 : FnOk P w K mg base (L2.CX P w) (3 * d) (ad33 K) X.d33.fd ps33 (spF (sta K) D33 (run G flds defs d 33))
  o34 : FnOk P w K mg base (L2.CX P w) (3 * d) (ad34 K) X.d34.fd ps34 (spF (sta K) D34 (run G flds defs d 34))
  o35 : FnOk P w K mg base (L2.CX P w) (3 * d) (ad35 K) X.d35.fd ps35 (spF (sta K) D35 (run G flds defs d 35))
  o36 : FnOk P w K mg base (L2.CX P w) (3 * d) (ad36 K) X.d36.fd ps36 (spF (sta K) D36 (run G flds defs d 36))
  o37 : FnOk P w K mg base (L2.CX P w) (3 * d) (ad37 K) X.d37.fd ps37 (spF (sta K) D37 (run G flds defs d 37))
  o38 : FnOk P w K mg base (L2.CX P w) (3 * d) (ad38 K) X.d38.fd ps38 (spF (sta K) D38 (run G flds defs d 38))
  o39 : FnOk P w K mg base (L2.CX P w) (3 * d) (ad39 K) X.d39.fd ps39 (spF (sta K) D39 (run G flds defs d 39))
  o40 : FnOk P w K mg base (L2.CX P w) (3 * d) (ad40 K) X.d40.fd ps40 (spF (sta K) D40 (run G flds defs d 40))
  o41 : FnOk P w K mg base (L2.CX P w) (3 * d) (ad41 K) X.d41.fd ps41 (spF (sta K) D41 (run G flds defs d 41))
  o42 : FnOk P w K mg base (L2.CX P w) (3 * d) (ad42 K) X.d42.fd ps42 (spF (sta K) D42 (run G flds defs d 42))
  o43 : FnOk P w K mg base (L2.CX P w) (3 * d) (ad43 K) X.d43.fd ps43 (spF (sta K) D43 (run G flds defs d 43))
  o44 : FnOk P w K mg base (L2.CX P w) (3 * d) (ad44 K) X.d44.fd ps44 (spF (sta K) D44 (run G flds defs d 44))
  o45 : FnOk P w K mg base (L2.CX P w) (3 * d) (ad45 K) X.d45.fd ps45 (spF (sta K) D45 (run G flds defs d 45))
  o46 : FnOk P w K mg base (L2.CX P w) (3 * d) (ad46 K) X.d46.fd ps46 (spF (sta K) D46 (run G flds defs d 46))
  o47 : FnOk P w K mg base (L2.CX P w) (3 * d) (ad47 K) X.d47.fd ps47 (spF (sta K) D47 (run G flds defs d 47))
  o48 : FnOk P w K mg base (L2.CX P w) (3 * d) (ad48 K) X.d48.fd ps48 (spF (sta K) D48 (run G flds defs d 48))
  o49 : FnOk P w K mg base (L2.CX P w) (3 * d) (ad49 K) X.d49.fd ps49 (spF (sta K) D49 (run G flds defs d 49))
  o50 : FnOk P w K mg base (L2.CX P w) (3 * d) (ad50 K) X.d50.fd ps50 (spF (sta K) D50 (run G flds defs d 50))
  o51 : FnOk P w K mg base (L2.CX P w) (3 * d) (ad51 K) X.d51.fd ps51 (spF (sta K) D51 (run G flds defs d 51))
  o52 : FnOk P w K mg base (L2.CX P w) (3 * d) (ad52 K) X.d52.fd ps52 (spF (sta K) D52 (run G flds defs d 52))
  o53 : FnOk P w K mg base (L2.CX P w) (3 * d) (ad53 K) X.d53.fd ps53 (spF (sta K) D53 (run G flds defs d 53))
  o54 : FnOk P w K mg base (L2.CX P w) (3 * d) (ad54 K) X.d54.fd ps54 (spF (sta K) D54 (run G flds defs d 54))
  o55 : FnOk P w K mg base (L2.CX P w) (3 * d) (ad55 K) X.d55.fd ps55 (spF (sta K) D55 (run G flds defs d 55))
section
variable {P : Program} {w : World} {K : PySem.W.Frag} {mg : Str → Option Value} {base : Heap}
theorem ok0 (X : Fx w K mg) {d : Nat} (O : Ok P w K mg base X d) : FnOk P w K mg base (L2.CX P w) (3 * d + 2 + 1) (ad0 K) X.d0.fd ps0 (spF (sta K) D0 (run G flds defs (d + 1) 0)) :=
  def_step X.d0 sc0 D0 (Φ := run G flds defs d) (G := G) rfl rfl rfl (by decide) fun cdv A outer s H E hr tk po =>
    (qone (qretO (scB1 (k_all rfl rfl) (by rfl) X.z_all PyProof.Rows.boot_all (so (scomp1 (own := [("_law_turn", 1)]) rfl rfl sc0.nd (irng1 (by rfl) X.z_range (scB2 (k_max rfl) (by rfl) X.z_max PyProof.Rows.boot_max (so sint) (so (scB2 (k_min rfl) (by rfl) X.z_min PyProof.Rows.boot_min (so (scB1 (k_len rfl) (by rfl) X.z_len PySem.boot_len (sov (pv 0)))) (so sint))))) (blkOk_by (by kernel_rfl)) (by decide) (fun _ _ _ _ _ => (gnm sc0.nd rfl (by first | exact .inl rfl | exact .inr rfl) (by first | exact .inl rfl | exact .inr rfl))) (fun _ _ _ _ _ => cnil) (fun _ _ _ _ _ => (sfcall takes0 O.o1 (hr.mono (by omega)) (by rfl) X.m1 X.d1.F.kp X.d1.b rfl (scall takes0 O.o2 (hr.mono (by omega)) (by rfl) X.m2 X.d2.F.kp X.d2.b rfl (acons (sv (pv 0)) (acons (sv (pv 1)) anil))) anil)))))))
theorem ok1 (X : Fx w K mg) {d : Nat} (O : Ok P w K mg base X d) : FnOk P w K mg base (L2.CX P w) (3 * d + 2 + 1) (ad1 K) X.d1.fd ps1 (spF (sta K) D1 (run G flds defs (d + 1) 1)) :=
  def_step X.d1 sc1 D1 (Φ := run G flds defs d) (G := G) rfl rfl rfl (by decide) fun cdv A outer s H E hr tk po =>
    (qcons (qpar (.inr (by decide)) (.inr (by decide)) rfl sc1.nd rfl rfl (by decide) rfl rfl (sbin b_sub (so (socall tk O.o3 (hr.mono (by omega)) (by rfl) X.m3 X.d3.F.kp X.d3.b rfl (pv 0) (acons sint anil))) (so sint)) (sbin (b_add rfl) (so sint) (so (socall tk O.o3 (hr.mono (by omega)) (by rfl) X.m3 X.d3.F.kp X.d3.b rfl (pv 0) (acons sint anil)))) (by rfl)) (qcons (qif (PW.pt (tor (tnot (tof (scall tk O.o4 (hr.mono (by omega)) (by rfl) X.m4 X.d4.F.kp X.d4.b rfl (acons (sv (pv 1)) anil)))) (tor1 (tnot (tof (scall tk O.o5 (hr.mono (by omega)) (by rfl) X.m5 X.d5.F.kp X.d5.b rfl (acons (sv (pv 1)) anil))))))) (qone (qretO sbl)) qnil) (qcons (qset (.inr (by decide)) sc1.nd rfl (by first | exact .inl rfl | exact .inr rfl) (smk rfl (show 0 < 1 by decide) tk X.mk_Report O.o6 (hr.mono (by omega)) (by rfl) X.m_Report X.d6.b rfl (acons (sbin (b_add rfl) (so sint) (sov (pv 2))) (acons (stup (acons sint (acons sint anil))) (acons (stup (acons (stup (acons sstr (acons (stup (acons sint (acons sint anil))) anil))) anil)) anil)))) (hf := .inl rfl)) (qcons (qif (PW.pt (tor (tcmp (c_ne rfl (hu65 hr)) (so (scall tk O.o7 (hr.mono (by omega)) (by rfl) X.m7 X.d7.F.kp X.d7.b rfl (acons (sv (pv 3)) (acons sint anil)))) (so (stup (acons sint anil)))) (tor (tcmp (c_ne rfl (hu65 hr)) (so (scall tk O.o7 (hr.mono (by omega)) (by rfl) X.m7 X.d7.F.kp X.d7.b rfl (acons (sv (pv 3)) (acons sint anil)))) (so (stup (acons (sv (pv 2)) anil)))) (tor1 (tcmp (c_ne rfl (hu65 hr)) (so (scall tk O.o8 (hr.mono (by omega)) (by rfl) X.m8 X.d8.F.kp X.d8.b rfl (acons (sv (pv 3)) anil))) (so (sbin (b_add rfl) (so (sbin (b_mul rfl) (so (stup (acons sint anil))) (sov (pv 2)))) (so (stup (acons sint (acons sint anil))))))))))) (qone (qretO sbl)) qnil) (qcons (qpar (.inr (by decide)) (.inr (by decide)) rfl sc1.nd rfl rfl (by decide) rfl rfl (smk rfl (show 0 < 1 by decide) tk X.mk_Report O.o6 (hr.mono (by omega)) (by rfl) X.m_Report X.d6.b rfl (acons sint (acons (stup (acons sint (acons sint anil))) (acons (stup anil) anil)))) (smk rfl (show 0 < 1 by decide) tk X.mk_Report O.o6 (hr.mono (by omega)) (by rfl) X.m_Report X.d6.b rfl (acons sint (acons (stup (acons sint (acons sint anil))) (acons (stup anil) anil)))) (by rfl)) (qone (qretO (sand (scmp (c_eq rfl (hu65 hr)) (so (scall tk O.o9 (hr.mono (by omega)) (by rfl) X.m9 X.d9.F.kp X.d9.b rfl (acons (sv (pv 4)) (acons (sv (pv 5)) anil)))) (so (stup (acons sint (acons sint anil))))) (sone (scmp (c_eq rfl (hu65 hr)) (so (scall tk O.o9 (hr.mono (by omega)) (by rfl) X.m9 X.d9.F.kp X.d9.b rfl (acons (sv (pv 3)) (acons (smk rfl (show 0 < 1 by decide) tk X.mk_Report O.o6 (hr.mono (by omega)) (by rfl) X.m_Report X.d6.b rfl (acons sint (acons (stup (acons sint (acons sint anil))) (acons (stup (acons (stup (acons sstr (acons sint anil))) anil)) anil)))) anil)))) (so (stup (acons sint anil)))))))))))))
theorem ok2 (X : Fx w K mg) {d : Nat} (O : Ok P w K mg base X d) : FnOk P w K mg base (L2.CX P w) (3 * d + 2 + 1) (ad2 K) X.d2.fd ps2 (spF (sta K) D2 (run G flds defs (d + 1) 2)) :=
  def_step X.d2 sc2 D2 (Φ := run G flds defs d) (G := G) rfl rfl rfl (by decide) fun cdv A outer s H E hr tk po =>
    (qcons (qset (.inl rfl) sc2.nd rfl (by first | exact .inl rfl | exact .inr rfl) (sbin (b_add rfl) (so sint) (so (sbin (b_mul rfl) (so sint) (sov (pv 1))))) (hf := .inl rfl)) (qcons (qfor (.inl rfl) (fun _ => rfl) (fun _ h => nomatch h) po rfl (iseq rfl (sslice rfl (sov (pv 0)) pnone (psome sint))) (gnm sc2.nd rfl (by first | exact .inl rfl | exact .inr rfl) (by first | exact .inl rfl | exact .inr rfl)) (qone (qset (.inl rfl) sc2.nd rfl (by first | exact .inl rfl | exact .inr rfl) (sbin b_mod (so (scT1 k_int (by rfl) X.z_int PyProof.Rows.boot_int (so (sbin (b_add rfl) (so (sbin (b_add rfl) (so (sbin (b_mul rfl) (sov (pv 2)) (so sint))) (so (sbin b_mod (so (scT1 k_int (by rfl) X.z_int PyProof.Rows.boot_int (sov (pv 3)))) (so sint))))) (so sint))))) (so sint)) (hf := .inl rfl)))) (qcons (qset (.inl rfl) sc2.nd rfl (by first | exact .inl rfl | exact .inr rfl) (site (tcmp c_lt (sov (pv 1)) (so (scB1 (k_len rfl) (by rfl) X.z_len PySem.boot_len (sov (pv 0))))) (scT1 k_int (by rfl) X.z_int PyProof.Rows.boot_int (so (six rfl (sov (pv 0)) (sov (pv 1))))) sint) (hf := .inl rfl)) (qone (qretO (slst (acons (sv (pv 2)) (acons (site (PW.pt (tor (tcmp c_lt (sov (pv 4)) (so sint)) (tor1 (tcmp c_ge (sov (pv 4)) (so (sbin b_pow (so sint) (so sint))))))) (scB1 k_abs (by rfl) X.z_abs PyProof.Rows.boot_abs (sov (pv 4))) sint) anil))))))))
theorem ok3 (X : Fx w K mg) {d : Nat} (O : Ok P w K mg base X d) : FnOk P w K mg base (L2.CX P w) (3 * d + 2 + 1) (ad3 K) X.d3.fd ps3 (spF (sta K) D3 (run G flds defs (d + 1) 3)) :=
  def_step X.d3 sc3 D3 (Φ := run G flds defs d) (G := G) rfl rfl rfl (by decide) fun cdv A outer s H E hr tk po =>
    (qcons (qif (tcmp c_gt (so (six rfl (sov (pv 0)) (so sint))) (so sint)) (qcons (qasgT (.inr (by decide)) rfl rfl (scB2 k_divmod (by rfl) X.z_divmod PyProof.Rows.boot_divmod (so (six rfl (sov (pv 0)) (so sint))) (sov (pv 1))) (gatsub (pv 0) (gatnm sc3.nd rfl (by first | exact .inl rfl | exact .inr rfl) (by first | exact .inl rfl | exact .inr rfl) gatnil))) (qone (qretO (sv (pv 2))))) qnil) (qcons (qsetI (pv 0) sint (sbin b_mod (so (scT1 k_int (by rfl) X.z_int PyProof.Rows.boot_int (so (sbin (b_add rfl) (so (sbin (b_mul rfl) (so (six rfl (sov (pv 0)) (so sint))) (so sint))) (so sint))))) (so sint))) (qone (qretO (sbin b_mod (so (scT1 k_int (by rfl) X.z_int PyProof.Rows.boot_int (so (sbin b_div (so (six rfl (sov (pv 0)) (so sint))) (so sint))))) (sov (pv 1)))))))
theorem ok4 (X : Fx w K mg) {d : Nat} (O : Ok P w K mg base X d) : FnOk P w K mg base (L2.CX P w) (3 * d + 2 + 1) (ad4 K) X.d4.fd ps4 (spF (sta K) D4 (run G flds defs (d + 1) 4)) :=
  def_step X.d4 sc4 D4 (Φ := run G flds defs d) (G := G) rfl rfl rfl (by decide) fun cdv A outer s H E hr tk po =>
    (qcons (qpar (.inl rfl) (.inl rfl) rfl sc4.nd rfl rfl (by decide) rfl rfl (stup (acons (sbin (b_add rfl) (so sint) (sov (pv 0))) (acons (sbin (b_add rfl) (so sint) (sov (pv 0))) anil))) (sbin (b_add rfl) (so sint) (so (sbin (b_mul rfl) (so sint) (sov (pv 0))))) (by rfl)) (qcons (qif (PW.pt (tor (tcmp (c_ne rfl (hu65 hr)) (so (scall tk O.o10 (hr.mono (by omega)) (by rfl) X.m10 X.d10.F.kp X.d10.b rfl (acons sint (acons (sv (pv 1)) (acons (sv (pv 2)) (acons sint anil)))))) (so (stup anil))) (tor1 (tcmp (c_ne rfl (hu65 hr)) (so (scall tk O.o11 (hr.mono (by omega)) (by rfl) X.m11 X.d11.F.kp X.d11.b rfl (acons (sv (pv 1)) (acons (sv (pv 2)) (acons sint (acons sint anil)))))) (so (stup (acons sint (acons sint (acons sint anil))))))))) (qone (qretO sbl)) qnil) (qcons (qif (tcmp (c_ne rfl (hu65 hr)) (so (scall tk O.o12 (hr.mono (by omega)) (by rfl) X.m12 X.d12.F.kp X.d12.b rfl (acons sint (acons (sv (pv 1)) (acons (sbin (b_add rfl) (so sint) (so (sbin (b_mul rfl) (so sint) (sov (pv 0))))) anil))))) (so (scT1 (k_tuple rfl) (by rfl) X.z_tuple PyProof.Rows.boot_tuple (so (scomp1 (own := [("_law_own", 3)]) rfl rfl sc4.nd (iseq rfl (slst (acons sint (acons sint (acons sint anil))))) (blkOk_by (by kernel_rfl)) (by decide) (fun _ _ _ _ _ => (gnm sc4.nd rfl (by first | exact .inl rfl | exact .inr rfl) (by first | exact .inl rfl | exact .inr rfl))) (fun _ _ _ _ _ => cnil) (fun _ _ _ _ _ => (sbin (b_add rfl) (so (sbin (b_add rfl) (sov (pv 3)) (so (sbin (b_mul rfl) (so sint) (sov (pv 0)))))) (so (sbin (b_mul rfl) (so (sbin (b_mul rfl) (so sint) (sov (pv 0)))) (sov (pv 0))))))))))) (qone (qretO sbl)) qnil) (qcons (qset (.inl rfl) sc4.nd rfl (by first | exact .inl rfl | exact .inr rfl) (slst (acons (scall tk O.o13 (hr.mono (by omega)) (by rfl) X.m13 X.d13.F.kp X.d13.b rfl (acons sint (acons (sbin (b_add rfl) (so sint) (so (sbin (b_mul rfl) (so sint) (sov (pv 0))))) (acons sint anil)))) (acons (scall tk O.o14 (hr.mono (by omega)) (by rfl) X.m14 X.d14.F.kp X.d14.b rfl (acons sint (acons (sbin (b_add rfl) (so sint) (so (sbin (b_mul rfl) (so sint) (sov (pv 0))))) (acons (sbin (b_add rfl) (so (sbin (b_add rfl) (so sint) (so (sbin (b_mul rfl) (so sint) (sov (pv 0)))))) (so (sbin (b_mul rfl) (so (sbin (b_mul rfl) (so sint) (sov (pv 0)))) (sov (pv 0))))) (acons sint anil))))) anil))) (hf := .inl rfl)) (qone (qretO (sand (scmp (c_eq rfl (hu65 hr)) (sov (pv 4)) (so (slst (acons (sbin (b_add rfl) (so sint) (so (sbin (b_mul rfl) (so sint) (sov (pv 0))))) (acons sint anil))))) (sone (scmp (c_eq rfl (hu65 hr)) (so (scall tk O.o13 (hr.mono (by omega)) (by rfl) X.m13 X.d13.F.kp X.d13.b rfl (acons sint (acons (sbin (b_add rfl) (so sint) (so (sbin (b_mul rfl) (so sint) (sov (pv 0))))) (acons sint anil))))) (so (sbin (b_add rfl) (so sint) (sov (pv 0)))))))))))))
theorem ok5 (X : Fx w K mg) {d : Nat} (O : Ok P w K mg base X d) : FnOk P w K mg base (L2.CX P w) (3 * d + 2 + 1) (ad5 K) X.d5.fd ps5 (spF (sta K) D5 (run G flds defs (d + 1) 5)) :=
  def_step X.d5 sc5 D5 (Φ := run G flds defs d) (G := G) rfl rfl rfl (by decide) fun cdv A outer s H E hr tk po =>
    (qcons (qset (.inl rfl) sc5.nd rfl (by first | exact .inl rfl | exact .inr rfl) (smk rfl (show 0 < 1 by decide) tk X.mk_Report O.o6 (hr.mono (by omega)) (by rfl) X.m_Report X.d6.b rfl (acons sint (acons (stup (acons (sbin (b_add rfl) (so sint) (sov (pv 0))) (acons (sbin (b_add rfl) (so sint) (sov (pv 0))) anil))) (acons (stup (acons (stup (acons sstr (acons sint (acons (sbin (b_add rfl) (so sint) (so (sbin (b_mul rfl) (so sint) (sov (pv 0))))) anil)))) anil)) anil)))) (hf := .inl rfl)) (qcons (qset (.inl rfl) sc5.nd rfl (by first | exact .inl rfl | exact .inr rfl) (slst (acons (scT1 (k_tuple rfl) (by rfl) X.z_tuple PyProof.Rows.boot_tuple (so (scomp1 (own := [("_law_own", 3)]) rfl rfl sc5.nd (iseq rfl (stup (acons sint (acons sint (acons sint (acons sint (acons sint anil))))))) (blkOk_by (by kernel_rfl)) (by decide) (fun _ _ _ _ _ => (gnm sc5.nd rfl (by first | exact .inl rfl | exact .inr rfl) (by first | exact .inl rfl | exact .inr rfl))) (fun _ _ _ _ _ => cnil) (fun _ _ _ _ _ => (sbin (b_add rfl) (sov (pv 3)) (sov (pv 0))))))) (acons (scT1 (k_tuple rfl) (by rfl) X.z_tuple PyProof.Rows.boot_tuple (so (scomp1 (own := [("_law_own", 3)]) rfl rfl sc5.nd (iseq rfl (stup (acons sint (acons sint (acons sint (acons sint (acons sint anil))))))) (blkOk_by (by kernel_rfl)) (by decide) (fun _ _ _ _ _ => (gnm sc5.nd rfl (by first | exact .inl rfl | exact .inr rfl) (by first | exact .inl rfl | exact .inr rfl))) (fun _ _ _ _ _ => cnil) (fun _ _ _ _ _ => (sbin (b_add rfl) (sov (pv 3)) (sov (pv 0))))))) anil))) (hf := .inl rfl)) (qcons (qif (tcmp (c_ne rfl (hu65 hr)) (so (slst (acons (scall tk O.o8 (hr.mono (by omega)) (by rfl) X.m8 X.d8.F.kp X.d8.b rfl (acons (sv (pv 1)) anil)) (acons (scall tk O.o15 (hr.mono (by omega)) (by rfl) X.m15 X.d15.F.kp X.d15.b rfl (acons (sv (pv 1)) anil)) (acons (scall tk O.o16 (hr.mono (by omega)) (by rfl) X.m16 X.d16.F.kp X.d16.b rfl (acons (sv (pv 1)) anil)) (acons (scall tk O.o17 (hr.mono (by omega)) (by rfl) X.m17 X.d17.F.kp X.d17.b rfl (acons (sv (pv 1)) anil)) anil)))))) (so (sbin (b_add rfl) (sov (pv 2)) (so (slst (acons sint (acons (stup (acons (sbin (b_add rfl) (so sint) (so (sbin (b_mul rfl) (so sint) (sov (pv 0))))) anil)) anil))))))) (qone (qretO sbl)) qnil) (qcons (qif (tcmp (c_ne rfl (hu65 hr)) (so (scall tk O.o18 (hr.mono (by omega)) (by rfl) X.m18 X.d18.F.kp X.d18.b rfl (acons (sv (pv 1)) (acons sint anil)))) (so (scT1 (k_tuple rfl) (by rfl) X.z_tuple PyProof.Rows.boot_tuple (so (scomp1 (own := [("_law_own", 3)]) rfl rfl sc5.nd (iseq rfl (stup (acons sint (acons sint (acons sint (acons sint (acons sint anil))))))) (blkOk_by (by kernel_rfl)) (by decide) (fun _ _ _ _ _ => (gnm sc5.nd rfl (by first | exact .inl rfl | exact .inr rfl) (by first | exact .inl rfl | exact .inr rfl))) (fun _ _ _ _ _ => cnil) (fun _ _ _ _ _ => (sbin (b_add rfl) (sov (pv 3)) (sov (pv 0))))))))) (qone (qretO sbl)) qnil) (qcons (qset (.inl rfl) sc5.nd rfl (by first | exact .inl rfl | exact .inr rfl) (stup (acons (stup (acons sstr (acons (sbin (b_add rfl) (so sint) (sov (pv 0))) anil))) (acons (stup (acons sstr (acons (sbin (b_add rfl) (so sint) (sov (pv 0))) anil))) (acons (stup (acons sstr (acons (sbin (b_add rfl) (so sint) (sov (pv 0))) anil))) anil)))) (hf := .inl rfl)) (qcons (qif (tcmp (c_ne rfl (hu65 hr)) (so (scall tk O.o19 (hr.mono (by omega)) (by rfl) X.m19 X.d19.F.kp X.d19.b rfl (acons (smk rfl (show 0 < 1 by decide) tk X.mk_Report O.o6 (hr.mono (by omega)) (by rfl) X.m_Report X.d6.b rfl (acons sint (acons (stup (acons (sbin (b_add rfl) (so sint) (sov (pv 0))) (acons (sbin (b_add rfl) (so sint) (sov (pv 0))) anil))) (acons (sv (pv 4)) anil)))) anil))) (so (stup (acons (stup (acons sint (acons sint anil))) (acons (stup (acons sint (acons sint anil))) (acons (stup (acons sint (acons sint anil))) anil)))))) (qone (qretO sbl)) qnil) (qcons (qset (.inl rfl) sc5.nd rfl (by first | exact .inl rfl | exact .inr rfl) (stup (acons (stup (acons sstr (acons (sbin (b_add rfl) (so sint) (sov (pv 0))) anil))) (acons (stup (acons sstr (acons (stup (acons (sbin (b_add rfl) (so sint) (so (sbin (b_mul rfl) (so sint) (sov (pv 0))))) (acons (sbin (b_add rfl) (so sint) (so (sbin (b_mul rfl) (so sint) (sov (pv 0))))) anil))) anil))) (acons (stup (acons sstr (acons (sbin (b_add rfl) (so sint) (sov (pv 0))) anil))) anil)))) (hf := .inl rfl)) (qone (qretO (scmp (c_eq rfl (hu65 hr)) (so (scall tk O.o20 (hr.mono (by omega)) (by rfl) X.m20 X.d20.F.kp X.d20.b rfl (acons (smk rfl (show 0 < 1 by decide) tk X.mk_Report O.o6 (hr.mono (by omega)) (by rfl) X.m_Report X.d6.b rfl (acons sint (acons (stup (acons (sbin (b_add rfl) (so sint) (sov (pv 0))) (acons (sbin (b_add rfl) (so sint) (sov (pv 0))) anil))) (acons (sv (pv 4)) anil)))) anil))) (so (stup (acons sint (acons sint (acons sint anil)))))))))))))))
theorem ok6 (X : Fx w K mg) {d : Nat} (O : Ok P w K mg base X d) : FnOk P w K mg base (L2.CX P w) (3 * d + 2 + 1) (ad6 K) X.d6.fd ps6 (spF (sta K) D6 (run G flds defs (d + 1) 6)) :=
  def_step X.d6 sc6 D6 (Φ := run G flds defs d) (G := G) rfl rfl rfl (by decide) fun cdv A outer s H E hr tk po =>
    (qcons (qexpr (scall tk O.o21 (hr.mono (by omega)) (by rfl) X.m21 X.d21.F.kp X.d21.b rfl (acons (sv (pv 1)) (acons (sgint (by rfl) X.c_MOST_PEOPLE) anil)))) (qcons (qexpr (scall tk O.o22 (hr.mono (by omega)) (by rfl) X.m22 X.d22.F.kp X.d22.b rfl (acons (sv (pv 2)) anil))) (qcons (qexpr (scall tk O.o23 (hr.mono (by omega)) (by rfl) X.m23 X.d23.F.kp X.d23.b rfl (acons (sv (pv 3)) (acons (sv (pv 2)) anil)))) (qcons (qsetF rfl X.cls_Report X.na_Report_own_people (pv 0) (sv (pv 1))) (qcons (qsetF rfl X.cls_Report X.na_Report_own_scale (pv 0) (sv (pv 2))) (qcons (qsetF rfl X.cls_Report X.na_Report_own_facts (pv 0) (sv (pv 3))) (qcons (qset (.inr (by decide)) sc6.nd rfl (by first | exact .inl rfl | exact .inr rfl) (sbin (b_add rfl) (so (slst (acons (sfstr (fcons (fconsV (sv (pv 1)) (fcons (fconsV (scall tk O.o24 (hr.mono (by omega)) (by rfl) X.m24 X.d24.F.kp X.d24.b rfl (acons (sv (pv 2)) anil)) fnil))))) anil))) (so (scomp1 (own := [("fact", 5)]) rfl rfl sc6.nd (iseq rfl (sv (pv 3))) (blkOk_by (by kernel_rfl)) (by decide) (fun _ _ _ _ _ => (gnm sc6.nd rfl (by first | exact .inl rfl | exact .inr rfl) (by first | exact .inl rfl | exact .inr rfl))) (fun _ _ _ _ _ => cnil) (fun _ _ _ _ _ => (scall takes0 O.o25 (hr.mono (by omega)) (by rfl) X.m25 X.d25.F.kp X.d25.b rfl (acons (sv (pv 5)) anil)))))) (hf := .inl rfl)) (qone (qsetF rfl X.cls_Report X.na_Report_own_text (pv 0) (sjoin rfl (sov (pv 4))))))))))))
theorem ok7 (X : Fx w K mg) {d : Nat} (O : Ok P w K mg base X d) : FnOk P w K mg base (L2.CX P w) (3 * d + 2 + 1) (ad7 K) X.d7.fd ps7 (spF (sta K) D7 (run G flds defs (d + 1) 7)) :=
  def_step X.d7 sc7 D7 (Φ := run G flds defs d) (G := G) rfl rfl rfl (by decide) fun cdv A outer s H E hr tk po =>
    (qcons (qexpr (scall tk O.o26 (hr.mono (by omega)) (by rfl) X.m26 X.d26.F.kp X.d26.b rfl (acons (sv (pv 0)) anil))) (qcons (qif (tnot (tof (scall tk O.o27 (hr.mono (by omega)) (by rfl) X.m27 X.d27.F.kp X.d27.b rfl (acons (sv (pv 1)) (acons (sprop rfl X.cls_Report X.pr_Report_scale O.o28 (hr.mono (by omega)) X.d28.b rfl (sv (pv 0))) anil))))) (qone qnever) qnil) (qone (qretO (scT1 (k_tuple rfl) (by rfl) X.z_tuple PyProof.Rows.boot_tuple (so (ssortset rfl rfl (hu65 hr) (by rfl) X.z_sorted (by rfl) X.z_set (so (scomp1 (own := [("scores", 2)]) rfl rfl sc7.nd (iseq rfl (scall tk O.o29 (hr.mono (by omega)) (by rfl) X.m29 X.d29.F.kp X.d29.b rfl (acons (sv (pv 0)) anil))) (blkOk_by (by kernel_rfl)) (by decide) (fun _ _ _ _ _ => (gnm sc7.nd rfl (by first | exact .inl rfl | exact .inr rfl) (by first | exact .inl rfl | exact .inr rfl))) (fun _ _ _ _ _ => cnil) (fun _ _ _ _ _ => (scount rfl (hu65 hr) (sv (pv 2)) (sv (pv 1)))))))))))))
theorem ok8 (X : Fx w K mg) {d : Nat} (O : Ok P w K mg base X d) : FnOk P w K mg base (L2.CX P w) (3 * d + 2 + 1) (ad8 K) X.d8.fd ps8 (spF (sta K) D8 (run G flds defs (d + 1) 8)) :=
  def_step X.d8 sc8 D8 (Φ := run G flds defs d) (G := G) rfl rfl rfl (by decide) fun cdv A outer s H E hr tk po =>
    (qcons (qexpr (scall tk O.o26 (hr.mono (by omega)) (by rfl) X.m26 X.d26.F.kp X.d26.b rfl (acons (sv (pv 0)) anil))) (qcons (qset (.inl rfl) sc8.nd rfl (by first | exact .inl rfl | exact .inr rfl) (scall tk O.o29 (hr.mono (by omega)) (by rfl) X.m29 X.d29.F.kp X.d29.b rfl (acons (sv (pv 0)) anil)) (hf := .inl rfl)) (qone (qretO (site (tcmp (c_ne rfl (hu65 hr)) (sov (pv 1)) (so (slst anil))) (six rfl (sov (pv 1)) (so sint)) snon)))))
theorem ok9 (X : Fx w K mg) {d : Nat} (O : Ok P w K mg base X d) : FnOk P w K mg base (L2.CX P w) (3 * d + 2 + 1) (ad9 K) X.d9.fd ps9 (spF (sta K) D9 (run G flds defs (d + 1) 9)) :=
  def_step X.d9 sc9 D9 (Φ := run G flds defs d) (G := G) rfl rfl rfl (by decide) fun cdv A outer s H E hr tk po =>
    (qcons (qexpr (scall tk O.o26 (hr.mono (by omega)) (by rfl) X.m26 X.d26.F.kp X.d26.b rfl (acons (sv (pv 0)) anil))) (qcons (qexpr (scall tk O.o26 (hr.mono (by omega)) (by rfl) X.m26 X.d26.F.kp X.d26.b rfl (acons (sv (pv 1)) anil))) (qcons (qif (tcmp c_ge (so (sprop rfl X.cls_Report X.pr_Report_people O.o30 (hr.mono (by omega)) X.d30.b rfl (sv (pv 1)))) (so (sprop rfl X.cls_Report X.pr_Report_people O.o30 (hr.mono (by omega)) X.d30.b rfl (sv (pv 0))))) (qone qnever) qnil) (qcons (qif (tcmp (c_ne rfl (hu65 hr)) (so (sprop rfl X.cls_Report X.pr_Report_scale O.o28 (hr.mono (by omega)) X.d28.b rfl (sv (pv 1)))) (so (sprop rfl X.cls_Report X.pr_Report_scale O.o28 (hr.mono (by omega)) X.d28.b rfl (sv (pv 0))))) (qone qnever) qnil) (qcons (qparT (.inl rfl) (.inl rfl) (six rfl (so (sprop rfl X.cls_Report X.pr_Report_scale O.o28 (hr.mono (by omega)) X.d28.b rfl (sv (pv 0)))) (so sint)) (slst anil) (gtp rfl rfl (gscons sc9.nd rfl (by first | exact .inl rfl | exact .inr rfl) (by first | exact .inl rfl | exact .inr rfl) (gscons sc9.nd rfl (by first | exact .inl rfl | exact .inr rfl) (by first | exact .inl rfl | exact .inr rfl) gsnil)))) (qcons (qsetC1 (own := [("scores", 5)]) (.inl rfl) rfl sc9.nd rfl rfl (by rfl) (iseq rfl (scall tk O.o29 (hr.mono (by omega)) (by rfl) X.m29 X.d29.F.kp X.d29.b rfl (acons (sv (pv 1)) anil))) (blkOk_by (by kernel_rfl)) (by decide) (fun _ _ _ _ _ => (gnm sc9.nd rfl (by first | exact .inl rfl | exact .inr rfl) (by first | exact .inl rfl | exact .inr rfl))) (fun _ _ _ _ _ => cnil) (fun _ _ _ _ _ => (scall takes0 O.o31 (hr.mono (by omega)) (by rfl) X.m31 X.d31.F.kp X.d31.b rfl (acons (sv (pv 5)) (acons (sv (pv 2)) anil))))) (qcons (qset (.inl rfl) sc9.nd rfl (by first | exact .inl rfl | exact .inr rfl) (smset rfl rfl (by rfl) X.z_set (so (scomp1 (own := [("scores", 5)]) rfl rfl sc9.nd (iseq rfl (scall tk O.o29 (hr.mono (by omega)) (by rfl) X.m29 X.d29.F.kp X.d29.b rfl (acons (sv (pv 0)) anil))) (blkOk_by (by kernel_rfl)) (by decide) (fun _ _ _ _ _ => (gnm sc9.nd rfl (by first | exact .inl rfl | exact .inr rfl) (by first | exact .inl rfl | exact .inr rfl))) (fun _ _ _ _ _ => cnil) (fun _ _ _ _ _ => (scall takes0 O.o31 (hr.mono (by omega)) (by rfl) X.m31 X.d31.F.kp X.d31.b rfl (acons (sv (pv 5)) (acons (sv (pv 2)) anil))))))) (hf := .inl rfl)) (qcons (qfor (.inl rfl) (fun _ => rfl) (fun _ h => nomatch h) po rfl (iseq rfl (scall tk O.o32 (hr.mono (by omega)) (by rfl) X.m32 X.d32.F.kp X.d32.b rfl (acons (sbin b_sub (so (sprop rfl X.cls_Report X.pr_Report_people O.o30 (hr.mono (by omega)) X.d30.b rfl (sv (pv 0)))) (so (sprop rfl X.cls_Report X.pr_Report_people O.o30 (hr.mono (by omega)) X.d30.b rfl (sv (pv 1))))) (acons (sprop rfl X.cls_Report X.pr_Report_scale O.o28 (hr.mono (by omega)) X.d28.b rfl (sv (pv 0))) anil)))) (gnm sc9.nd rfl (by first | exact .inl rfl | exact .inr rfl) (by first | exact .inl rfl | exact .inr rfl)) (qcons (qpar (.inl rfl) (.inl rfl) rfl sc9.nd rfl rfl (by decide) rfl rfl (scB1 (k_sum rfl rfl) (by rfl) X.z_sum PyProof.Rows.boot_sum (sov (pv 5))) (scall tk O.o31 (hr.mono (by omega)) (by rfl) X.m31 X.d31.F.kp X.d31.b rfl (acons (sv (pv 5)) (acons (sv (pv 2)) anil))) (by rfl)) (qone (qif (tcmp (c_notin rfl (hu65 hr)) (sov (pv 7)) (sov (pv 3))) (qone (qfor (.inl rfl) (fun _ => rfl) (fun _ h => nomatch h) po rfl (iseq rfl (sv (pv 4))) (gnm sc9.nd rfl (by first | exact .inl rfl | exact .inr rfl) (by first | exact .inl rfl | exact .inr rfl)) (qone (qif (tcmp (c_in rfl (hu65 hr)) (so (sbin (b_add rfl) (sov (pv 8)) (sov (pv 9)))) (sov (pv 6))) (qcons (qapp rfl (pv 3) (sv (pv 7))) (qone qbrk)) qnil)))) qnil)))) (qone (qretO (scT1 (k_tuple rfl) (by rfl) X.z_tuple PyProof.Rows.boot_tuple (so (scB1 (k_sorted rfl) (by rfl) X.z_sorted PyProof.Rows.boot_sorted (sov (pv 3)))))))))))))))
theorem ok10 (X : Fx w K mg) {d : Nat} (O : Ok P w K mg base X d) : FnOk P w K mg base (L2.CX P w) (3 * d + 2 + 1) (ad10 K) X.d10.fd ps10 (spF (sta K) D10 (run G flds defs (d + 1) 10)) :=
  def_step X.d10 sc10 D10 (Φ := run G flds defs d) (G := G) rfl rfl rfl (by decide) fun cdv A outer s H E hr tk po =>
    (qcons (qexpr (scall tk O.o21 (hr.mono (by omega)) (by rfl) X.m21 X.d21.F.kp X.d21.b rfl (acons (sv (pv 0)) (acons (sgint (by rfl) X.c_MOST_AVERAGED) anil)))) (qcons (qexpr (scall tk O.o22 (hr.mono (by omega)) (by rfl) X.m22 X.d22.F.kp X.d22.b rfl (acons (sv (pv 1)) anil))) (qcons (qexpr (scall tk O.o33 (hr.mono (by omega)) (by rfl) X.m33 X.d33.F.kp X.d33.b rfl (acons (sv (pv 2)) anil))) (qcons (qexpr (scall tk O.o34 (hr.mono (by omega)) (by rfl) X.m34 X.d34.F.kp X.d34.b rfl (acons (sv (pv 3)) anil))) (qcons (qasg (.inl rfl) (scall tk O.o35 (hr.mono (by omega)) (by rfl) X.m35 X.d35.F.kp X.d35.b rfl (acons (sv (pv 0)) (acons (sv (pv 1)) (acons (sv (pv 2)) (acons (sv (pv 3)) anil))))) (gtp rfl rfl (gscons sc10.nd rfl (by first | exact .inl rfl | exact .inr rfl) (by first | exact .inl rfl | exact .inr rfl) (gscons sc10.nd rfl (by first | exact .inl rfl | exact .inr rfl) (by first | exact .inl rfl | exact .inr rfl) gsnil)))) (qone (qretO (stupR2 rfl (by rfl) X.z_tuple (by rfl) X.z_range (sv (pv 4)) (sbin (b_add rfl) (sov (pv 5)) (so sint))))))))))
theorem ok11 (X : Fx w K mg) {d : Nat} (O : Ok P w K mg base X d) : FnOk P w K mg base (L2.CX P w) (3 * d + 2 + 1) (ad11 K) X.d11.fd ps11 (spF (sta K) D11 (run G flds defs (d + 1) 11)) :=
  def_step X.d11 sc11 D11 (Φ := run G flds defs d) (G := G) rfl rfl rfl (by decide) fun cdv A outer s H E hr tk po =>
    (qcons (qexpr (scall tk O.o22 (hr.mono (by omega)) (by rfl) X.m22 X.d22.F.kp X.d22.b rfl (acons (sv (pv 0)) anil))) (qcons (qexpr (scall tk O.o33 (hr.mono (by omega)) (by rfl) X.m33 X.d33.F.kp X.d33.b rfl (acons (sv (pv 1)) anil))) (qcons (qexpr (scall tk O.o34 (hr.mono (by omega)) (by rfl) X.m34 X.d34.F.kp X.d34.b rfl (acons (sv (pv 2)) anil))) (qcons (qexpr (scall tk O.o36 (hr.mono (by omega)) (by rfl) X.m36 X.d36.F.kp X.d36.b rfl (acons (sv (pv 3)) anil))) (qcons (qown (.inl rfl) sc11.nd rfl (by first | exact .inl rfl | exact .inr rfl) (slst anil) (hf := .inl rfl)) (qcons (qfor (.inl rfl) (fun _ => rfl) (fun _ h => nomatch h) po rfl (irng2 (by rfl) X.z_range sint (sbin (b_add rfl) (sov (pv 3)) (so sint))) (gnm sc11.nd rfl (by first | exact .inl rfl | exact .inr rfl) (by first | exact .inl rfl | exact .inr rfl)) (qcons (qasg (.inl rfl) (scall tk O.o35 (hr.mono (by omega)) (by rfl) X.m35 X.d35.F.kp X.d35.b rfl (acons (sv (pv 5)) (acons (sv (pv 0)) (acons (sv (pv 1)) (acons (sv (pv 2)) anil))))) (gtp rfl rfl (gscons sc11.nd rfl (by first | exact .inl rfl | exact .inr rfl) (by first | exact .inl rfl | exact .inr rfl) (gscons sc11.nd rfl (by first | exact .inl rfl | exact .inr rfl) (by first | exact .inl rfl | exact .inr rfl) gsnil)))) (qone (qif (tcmp c_le (sov (pv 6)) (sov (pv 7))) (qone (qapp rfl (pv 4) (sv (pv 5)))) qnil)))) (qone (qretO (scT1 (k_tuple rfl) (by rfl) X.z_tuple PyProof.Rows.boot_tuple (sov (pv 4)))))))))))
theorem ok12 (X : Fx w K mg) {d : Nat} (O : Ok P w K mg base X d) : FnOk P w K mg base (L2.CX P w) (3 * d + 2 + 1) (ad12 K) X.d12.fd ps12 (spF (sta K) D12 (run G flds defs (d + 1) 12)) :=
  def_step X.d12 sc12 D12 (Φ := run G flds defs d) (G := G) rfl rfl rfl (by decide) fun cdv A outer s H E hr tk po =>
    (qcons (qexpr (scall tk O.o21 (hr.mono (by omega)) (by rfl) X.m21 X.d21.F.kp X.d21.b rfl (acons (sv (pv 0)) (acons (sgint (by rfl) X.c_MOST_PEOPLE) anil)))) (qcons (qexpr (scall tk O.o22 (hr.mono (by omega)) (by rfl) X.m22 X.d22.F.kp X.d22.b rfl (acons (sv (pv 1)) anil))) (qcons (qexpr (scall tk O.o33 (hr.mono (by omega)) (by rfl) X.m33 X.d33.F.kp X.d33.b rfl (acons (sv (pv 2)) anil))) (qcons (qasg (.inl rfl) (sv (pv 1)) (gtp rfl rfl (gscons sc12.nd rfl (by first | exact .inl rfl | exact .inr rfl) (by first | exact .inl rfl | exact .inr rfl) (gscons sc12.nd rfl (by first | exact .inl rfl | exact .inr rfl) (by first | exact .inl rfl | exact .inr rfl) gsnil)))) (qcons (qset (.inl rfl) sc12.nd rfl (by first | exact .inl rfl | exact .inr rfl) (slst (acons (stup (acons sint (acons sint anil))) anil)) (hf := .inl rfl)) (qcons (qfor (.inl rfl) (fun _ => rfl) (fun _ h => nomatch h) po rfl (irng1 (by rfl) X.z_range (sv (pv 0))) (gnm sc12.nd rfl (by first | exact .inl rfl | exact .inr rfl) (by first | exact .inl rfl | exact .inr rfl)) (qcons (qsetC2 (own := [("own", 8), ("more", 9), ("score", 10)]) (vs1 := [10]) (.inl rfl) rfl sc12.nd rfl rfl (by rfl) (iseq rfl (sv (pv 5))) (blkOk_by (by kernel_rfl)) (by decide) (by decide) (by decide) (fun _ _ _ _ _ => (gtp rfl rfl (gscons sc12.nd rfl (by first | exact .inl rfl | exact .inr rfl) (by first | exact .inl rfl | exact .inr rfl) (gscons sc12.nd rfl (by first | exact .inl rfl | exact .inr rfl) (by first | exact .inl rfl | exact .inr rfl) gsnil)))) (fun _ _ _ _ _ => cnil) (fun _ _ _ _ _ => (irng2 (by rfl) X.z_range (sv (pv 3)) (sbin (b_add rfl) (sov (pv 4)) (so sint)))) (fun _ _ _ _ _ => (gnm sc12.nd rfl (by first | exact .inl rfl | exact .inr rfl) (by first | exact .inl rfl | exact .inr rfl))) (fun _ _ _ _ _ => cnil) (fun _ _ _ _ _ => (stup (acons (sbin (b_add rfl) (sov (pv 8)) (sov (pv 10))) (acons (sbin (b_add rfl) (sov (pv 9)) (so (sbin (b_mul rfl) (sov (pv 10)) (sov (pv 10))))) anil))))) (qone (qset (.inl rfl) sc12.nd rfl (by first | exact .inl rfl | exact .inr rfl) (ssortsetT rfl rfl (hu65 hr) (by rfl) X.z_sorted (by rfl) X.z_set (sov (pv 7))) (hf := .inl rfl))))) (qone (qretO (scT1 (k_tuple rfl) (by rfl) X.z_tuple PyProof.Rows.boot_tuple (so (scomp1 (own := [("own", 8), ("more", 9)]) rfl rfl sc12.nd (iseq rfl (sv (pv 5))) (blkOk_by (by kernel_rfl)) (by decide) (fun _ _ _ _ _ => (gtp rfl rfl (gscons sc12.nd rfl (by first | exact .inl rfl | exact .inr rfl) (by first | exact .inl rfl | exact .inr rfl) (gscons sc12.nd rfl (by first | exact .inl rfl | exact .inr rfl) (by first | exact .inl rfl | exact .inr rfl) gsnil)))) (fun _ _ _ _ _ => (cone (tcmp (c_eq rfl (hu65 hr)) (sov (pv 8)) (sov (pv 2))))) (fun _ _ _ _ _ => (sv (pv 9))))))))))))))
theorem ok13 (X : Fx w K mg) {d : Nat} (O : Ok P w K mg base X d) : FnOk P w K mg base (L2.CX P w) (3 * d + 2 + 1) (ad13 K) X.d13.fd ps13 (spF (sta K) D13 (run G flds defs (d + 1) 13)) :=
  def_step X.d13 sc13 D13 (Φ := run G flds defs d) (G := G) rfl rfl rfl (by decide) fun cdv A outer s H E hr tk po =>
    (qcons (qexpr (scall tk O.o37 (hr.mono (by omega)) (by rfl) X.m37 X.d37.F.kp X.d37.b rfl (acons (sv (pv 0)) anil))) (qcons (qexpr (scall tk O.o33 (hr.mono (by omega)) (by rfl) X.m33 X.d33.F.kp X.d33.b rfl (acons (sv (pv 1)) anil))) (qcons (qexpr (scall tk O.o34 (hr.mono (by omega)) (by rfl) X.m34 X.d34.F.kp X.d34.b rfl (acons (sv (pv 2)) anil))) (qone (qretO (scall tk O.o38 (hr.mono (by omega)) (by rfl) X.m38 X.d38.F.kp X.d38.b rfl (acons (sv (pv 0)) (acons (sv (pv 1)) (acons (sv (pv 2)) anil)))))))))
theorem ok14 (X : Fx w K mg) {d : Nat} (O : Ok P w K mg base X d) : FnOk P w K mg base (L2.CX P w) (3 * d + 2 + 1) (ad14 K) X.d14.fd ps14 (spF (sta K) D14 (run G flds defs (d + 1) 14)) :=
  def_step X.d14 sc14 D14 (Φ := run G flds defs d) (G := G) rfl rfl rfl (by decide) fun cdv A outer s H E hr tk po =>
    (qcons (qexpr (scall tk O.o37 (hr.mono (by omega)) (by rfl) X.m37 X.d37.F.kp X.d37.b rfl (acons (sv (pv 0)) anil))) (qcons (qexpr (scall tk O.o33 (hr.mono (by omega)) (by rfl) X.m33 X.d33.F.kp X.d33.b rfl (acons (sv (pv 1)) anil))) (qcons (qexpr (scall tk O.o33 (hr.mono (by omega)) (by rfl) X.m33 X.d33.F.kp X.d33.b rfl (acons (sv (pv 2)) anil))) (qcons (qif (tcmp c_lt (so (sbin (b_mul rfl) (sov (pv 0)) (sov (pv 2)))) (so (sbin (b_mul rfl) (sov (pv 1)) (sov (pv 1))))) (qone qnever) qnil) (qcons (qexpr (scall tk O.o34 (hr.mono (by omega)) (by rfl) X.m34 X.d34.F.kp X.d34.b rfl (acons (sv (pv 3)) anil))) (qone (qretO (scall tk O.o39 (hr.mono (by omega)) (by rfl) X.m39 X.d39.F.kp X.d39.b rfl (acons (sv (pv 0)) (acons (sv (pv 1)) (acons (sv (pv 2)) (acons (sv (pv 3)) anil))))))))))))
theorem ok15 (X : Fx w K mg) {d : Nat} (O : Ok P w K mg base X d) : FnOk P w K mg base (L2.CX P w) (3 * d + 2 + 1) (ad15 K) X.d15.fd ps15 (spF (sta K) D15 (run G flds defs (d + 1) 15)) :=
  def_step X.d15 sc15 D15 (Φ := run G flds defs d) (G := G) rfl rfl rfl (by decide) fun cdv A outer s H E hr tk po =>
    (qcons (qexpr (scall tk O.o26 (hr.mono (by omega)) (by rfl) X.m26 X.d26.F.kp X.d26.b rfl (acons (sv (pv 0)) anil))) (qcons (qset (.inl rfl) sc15.nd rfl (by first | exact .inl rfl | exact .inr rfl) (scall tk O.o29 (hr.mono (by omega)) (by rfl) X.m29 X.d29.F.kp X.d29.b rfl (acons (sv (pv 0)) anil)) (hf := .inl rfl)) (qone (qretO (site (tcmp (c_ne rfl (hu65 hr)) (sov (pv 1)) (so (slst anil))) (six rfl (sov (pv 1)) (so (sneg (so sint)))) snon)))))
theorem ok16 (X : Fx w K mg) {d : Nat} (O : Ok P w K mg base X d) : FnOk P w K mg base (L2.CX P w) (3 * d + 2 + 1) (ad16 K) X.d16.fd ps16 (spF (sta K) D16 (run G flds defs (d + 1) 16)) :=
  def_step X.d16 sc16 D16 (Φ := run G flds defs d) (G := G) rfl rfl rfl (by decide) fun cdv A outer s H E hr tk po =>
    (qcons (qexpr (scall tk O.o26 (hr.mono (by omega)) (by rfl) X.m26 X.d26.F.kp X.d26.b rfl (acons (sv (pv 0)) anil))) (qone (qretO (scB1 (k_len rfl) (by rfl) X.z_len PySem.boot_len (so (scall tk O.o29 (hr.mono (by omega)) (by rfl) X.m29 X.d29.F.kp X.d29.b rfl (acons (sv (pv 0)) anil)))))))
theorem ok17 (X : Fx w K mg) {d : Nat} (O : Ok P w K mg base X d) : FnOk P w K mg base (L2.CX P w) (3 * d + 2 + 1) (ad17 K) X.d17.fd ps17 (spF (sta K) D17 (run G flds defs (d + 1) 17)) :=
  def_step X.d17 sc17 D17 (Φ := run G flds defs d) (G := G) rfl rfl rfl (by decide) fun cdv A outer s H E hr tk po =>
    (qcons (qexpr (scall tk O.o26 (hr.mono (by omega)) (by rfl) X.m26 X.d26.F.kp X.d26.b rfl (acons (sv (pv 0)) anil))) (qone (qretO (scT1 (k_tuple rfl) (by rfl) X.z_tuple PyProof.Rows.boot_tuple (so (ssortset rfl rfl (hu65 hr) (by rfl) X.z_sorted (by rfl) X.z_set (so (scomp1 (own := [("scores", 1)]) rfl rfl sc17.nd (iseq rfl (scall tk O.o29 (hr.mono (by omega)) (by rfl) X.m29 X.d29.F.kp X.d29.b rfl (acons (sv (pv 0)) anil))) (blkOk_by (by kernel_rfl)) (by decide) (fun _ _ _ _ _ => (gnm sc17.nd rfl (by first | exact .inl rfl | exact .inr rfl) (by first | exact .inl rfl | exact .inr rfl))) (fun _ _ _ _ _ => cnil) (fun _ _ _ _ _ => (scB1 (k_sum rfl rfl) (by rfl) X.z_sum PyProof.Rows.boot_sum (sov (pv 1))))))))))))
theorem ok18 (X : Fx w K mg) {d : Nat} (O : Ok P w K mg base X d) : FnOk P w K mg base (L2.CX P w) (3 * d + 2 + 1) (ad18 K) X.d18.fd ps18 (spF (sta K) D18 (run G flds defs (d + 1) 18)) :=
  def_step X.d18 sc18 D18 (Φ := run G flds defs d) (G := G) rfl rfl rfl (by decide) fun cdv A outer s H E hr tk po =>
    (qcons (qexpr (scall tk O.o26 (hr.mono (by omega)) (by rfl) X.m26 X.d26.F.kp X.d26.b rfl (acons (sv (pv 0)) anil))) (qcons (qset (.inl rfl) sc18.nd rfl (by first | exact .inl rfl | exact .inr rfl) (scall tk O.o29 (hr.mono (by omega)) (by rfl) X.m29 X.d29.F.kp X.d29.b rfl (acons (sv (pv 0)) anil)) (hf := .inl rfl)) (qcons (qif (tnot (tof (scall tk O.o40 (hr.mono (by omega)) (by rfl) X.m40 X.d40.F.kp X.d40.b rfl (acons (sv (pv 1)) (acons sint (acons (sbin b_sub (so (scB1 (k_len rfl) (by rfl) X.z_len PySem.boot_len (sov (pv 2)))) (so sint)) anil)))))) (qone qnever) qnil) (qone (qretO (six rfl (sov (pv 2)) (sov (pv 1))))))))
theorem ok19 (X : Fx w K mg) {d : Nat} (O : Ok P w K mg base X d) : FnOk P w K mg base (L2.CX P w) (3 * d + 2 + 1) (ad19 K) X.d19.fd ps19 (spF (sta K) D19 (run G flds defs (d + 1) 19)) :=
  def_step X.d19 sc19 D19 (Φ := run G flds defs d) (G := G) rfl rfl rfl (by decide) fun cdv A outer s H E hr tk po =>
    (qcons (qexpr (scall tk O.o26 (hr.mono (by omega)) (by rfl) X.m26 X.d26.F.kp X.d26.b rfl (acons (sv (pv 0)) anil))) (qcons (qpar (.inl rfl) (.inl rfl) rfl sc19.nd rfl rfl (by decide) rfl rfl (scall tk O.o41 (hr.mono (by omega)) (by rfl) X.m41 X.d41.F.kp X.d41.b rfl (acons (sv (pv 0)) anil)) (slst anil) (by rfl)) (qcons (qfor (.inl rfl) (fun _ => rfl) (fun _ h => nomatch h) po rfl (iseq rfl (scall tk O.o42 (hr.mono (by omega)) (by rfl) X.m42 X.d42.F.kp X.d42.b rfl (acons (scB1 (k_len rfl) (by rfl) X.z_len PySem.boot_len (so (sprop rfl X.cls_Report X.pr_Report_facts O.o43 (hr.mono (by omega)) X.d43.b rfl (sv (pv 0))))) anil))) (gnm sc19.nd rfl (by first | exact .inl rfl | exact .inr rfl) (by first | exact .inl rfl | exact .inr rfl)) (qone (qif (PW.pt (tand (tnot (tof (scB1 (k_any rfl rfl) (by rfl) X.z_any PyProof.Rows.boot_any (so (scomp1 (own := [("least", 4)]) rfl rfl sc19.nd (iown rfl (pv 2)) (blkOk_by (by kernel_rfl)) (by decide) (fun _ _ _ _ _ => (gnm sc19.nd rfl (by first | exact .inl rfl | exact .inr rfl) (by first | exact .inl rfl | exact .inr rfl))) (fun _ _ _ _ _ => cnil) (fun _ _ _ _ _ => (scall takes0 O.o44 (hr.mono (by omega)) (by rfl) X.m44 X.d44.F.kp X.d44.b rfl (acons (sv (pv 4)) (acons (sv (pv 3)) anil))))))))) (tand1 (tnot (tof (scB1 (k_any rfl rfl) (by rfl) X.z_any PyProof.Rows.boot_any (so (scomp1 (own := [("lot", 5)]) rfl rfl sc19.nd (iseq rfl (sv (pv 1))) (blkOk_by (by kernel_rfl)) (by decide) (fun _ _ _ _ _ => (gnm sc19.nd rfl (by first | exact .inl rfl | exact .inr rfl) (by first | exact .inl rfl | exact .inr rfl))) (fun _ _ _ _ _ => cnil) (fun _ _ _ _ _ => (scall takes0 O.o44 (hr.mono (by omega)) (by rfl) X.m44 X.d44.F.kp X.d44.b rfl (acons (sv (pv 3)) (acons (sv (pv 5)) anil)))))))))))) (qone (qapp rfl (pv 2) (sv (pv 3)))) qnil))) (qone (qretO (scT1 (k_tuple rfl) (by rfl) X.z_tuple PyProof.Rows.boot_tuple (sov (pv 2))))))))
theorem ok20 (X : Fx w K mg) {d : Nat} (O : Ok P w K mg base X d) : FnOk P w K mg base (L2.CX P w) (3 * d + 2 + 1) (ad20 K) X.d20.fd ps20 (spF (sta K) D20 (run G flds defs (d + 1) 20)) :=
  def_step X.d20 sc20 D20 (Φ := run G flds defs d) (G := G) rfl rfl rfl (by decide) fun cdv A outer s H E hr tk po =>
    (qcons (qexpr (scall tk O.o26 (hr.mono (by omega)) (by rfl) X.m26 X.d26.F.kp X.d26.b rfl (acons (sv (pv 0)) anil))) (qcons (qasg (.inl rfl) (stup (acons (stupR1 rfl (by rfl) X.z_tuple (by rfl) X.z_range (scB1 (k_len rfl) (by rfl) X.z_len PySem.boot_len (so (sprop rfl X.cls_Report X.pr_Report_facts O.o43 (hr.mono (by omega)) X.d43.b rfl (sv (pv 0)))))) (acons (scall tk O.o41 (hr.mono (by omega)) (by rfl) X.m41 X.d41.F.kp X.d41.b rfl (acons (sv (pv 0)) anil)) anil))) (gtp rfl rfl (gscons sc20.nd rfl (by first | exact .inl rfl | exact .inr rfl) (by first | exact .inl rfl | exact .inr rfl) (gscons sc20.nd rfl (by first | exact .inl rfl | exact .inr rfl) (by first | exact .inl rfl | exact .inr rfl) gsnil)))) (qone (qretO (scT1 (k_tuple rfl) (by rfl) X.z_tuple PyProof.Rows.boot_tuple (so (scomp1 (own := [("index", 3)]) rfl rfl sc20.nd (iseq rfl (sv (pv 1))) (blkOk_by (by kernel_rfl)) (by decide) (fun _ _ _ _ _ => (gnm sc20.nd rfl (by first | exact .inl rfl | exact .inr rfl) (by first | exact .inl rfl | exact .inr rfl))) (fun _ _ _ _ _ => (cone (tcmp (c_notin rfl (hu65 hr)) (so (sbin (b_add rfl) (so (sslice rfl (sov (pv 1)) pnone (psome (sv (pv 3))))) (so (sslice rfl (sov (pv 1)) (psome (sbin (b_add rfl) (sov (pv 3)) (so sint))) pnone)))) (sov (pv 2))))) (fun _ _ _ _ _ => (sv (pv 3))))))))))
theorem ok21 (X : Fx w K mg) {d : Nat} (O : Ok P w K mg base X d) : FnOk P w K mg base (L2.CX P w) (3 * d + 2 + 1) (ad21 K) X.d21.fd ps21 (spF (sta K) D21 (run G flds defs (d + 1) 21)) :=
  def_step X.d21 sc21 D21 (Φ := run G flds defs d) (G := G) rfl rfl rfl (by decide) fun cdv A outer s H E hr tk po =>
    (qone (qif (tnot (tof (scall tk O.o40 (hr.mono (by omega)) (by rfl) X.m40 X.d40.F.kp X.d40.b rfl (acons (sv (pv 0)) (acons sint (acons (sv (pv 1)) anil)))))) (qone qnever) qnil))
theorem ok22 (X : Fx w K mg) {d : Nat} (O : Ok P w K mg base X d) : FnOk P w K mg base (L2.CX P w) (3 * d + 2 + 1) (ad22 K) X.d22.fd ps22 (spF (sta K) D22 (run G flds defs (d + 1) 22)) :=
  def_step X.d22 sc22 D22 (Φ := run G flds defs d) (G := G) rfl rfl rfl (by decide) fun cdv A outer s H E hr tk po =>
    (qone (qif (tnot (tof (scall tk O.o45 (hr.mono (by omega)) (by rfl) X.m45 X.d45.F.kp X.d45.b rfl (acons (sv (pv 0)) anil)))) (qone qnever) qnil))
theorem ok23 (X : Fx w K mg) {d : Nat} (O : Ok P w K mg base X d) : FnOk P w K mg base (L2.CX P w) (3 * d + 2 + 1) (ad23 K) X.d23.fd ps23 (spF (sta K) D23 (run G flds defs (d + 1) 23)) :=
  def_step X.d23 sc23 D23 (Φ := run G flds defs d) (G := G) rfl rfl rfl (by decide) fun cdv A outer s H E hr tk po =>
    (qcons (qif (tnot (tof (sIsi (i_tuple rfl X.ins) (by rfl) X.z_isinstance (sov (pv 0)) (pe_bltn (by rfl) X.z_tuple PyProof.Rows.boot_tuple rfl)))) (qone qnever) qnil) (qone (qfor (.inl rfl) (fun _ => rfl) (fun _ h => nomatch h) po rfl (ienum rfl (by rfl) X.z_enumerate (sv (pv 0))) (gtp rfl rfl (gscons sc23.nd rfl (by first | exact .inl rfl | exact .inr rfl) (by first | exact .inl rfl | exact .inr rfl) (gscons sc23.nd rfl (by first | exact .inl rfl | exact .inr rfl) (by first | exact .inl rfl | exact .inr rfl) gsnil))) (qone (qif (PW.pt (tor (tcmp (c_eq rfl (hu65 hr)) (sov (pv 2)) (so (sgint (by rfl) X.c_MOST_FACTS))) (tor1 (tnot (tof (scall tk O.o46 (hr.mono (by omega)) (by rfl) X.m46 X.d46.F.kp X.d46.b rfl (acons (sv (pv 3)) (acons (sv (pv 1)) anil)))))))) (qone qnever) qnil)))))
theorem ok24 (X : Fx w K mg) {d : Nat} (O : Ok P w K mg base X d) : FnOk P w K mg base (L2.CX P w) (3 * d + 2 + 1) (ad24 K) X.d24.fd ps24 (spF (sta K) D24 (run G flds defs (d + 1) 24)) :=
  def_step X.d24 sc24 D24 (Φ := run G flds defs d) (G := G) rfl rfl rfl (by decide) fun cdv A outer s H E hr tk po =>
    (qcons (qasg (.inl rfl) (sv (pv 0)) (gtp rfl rfl (gscons sc24.nd rfl (by first | exact .inl rfl | exact .inr rfl) (by first | exact .inl rfl | exact .inr rfl) (gscons sc24.nd rfl (by first | exact .inl rfl | exact .inr rfl) (by first | exact .inl rfl | exact .inr rfl) gsnil)))) (qone (qretO (site (tcmp (c_eq rfl (hu65 hr)) (sov (pv 1)) (sov (pv 2))) (scT1 k_str (by rfl) X.z_str PyProof.Rows.boot_str (sov (pv 1))) (sfstr (fconsV (sv (pv 1)) (fcons (fconsV (sv (pv 2)) fnil))))))))
theorem ok25 (X : Fx w K mg) {d : Nat} (O : Ok P w K mg base X d) : FnOk P w K mg base (L2.CX P w) (3 * d + 2 + 1) (ad25 K) X.d25.fd ps25 (spF (sta K) D25 (run G flds defs (d + 1) 25)) :=
  def_step X.d25 sc25 D25 (Φ := run G flds defs d) (G := G) rfl rfl rfl (by decide) fun cdv A outer s H E hr tk po =>
    (qcons (qsetC1 (own := [("part", 2)]) (.inl rfl) rfl sc25.nd rfl rfl (by rfl) (iseq rfl (sv (pv 0))) (blkOk_by (by kernel_rfl)) (by decide) (fun _ _ _ _ _ => (gnm sc25.nd rfl (by first | exact .inl rfl | exact .inr rfl) (by first | exact .inl rfl | exact .inr rfl))) (fun _ _ _ _ _ => cnil) (fun _ _ _ _ _ => (site (tof (sIsi (i_tuple rfl X.ins) (by rfl) X.z_isinstance (sov (pv 2)) (pe_bltn (by rfl) X.z_tuple PyProof.Rows.boot_tuple rfl))) (scall takes0 O.o24 (hr.mono (by omega)) (by rfl) X.m24 X.d24.F.kp X.d24.b rfl (acons (sv (pv 2)) anil)) (scT1 k_str (by rfl) X.z_str PyProof.Rows.boot_str (sov (pv 2)))))) (qone (qretO (sjoin rfl (sov (pv 1))))))
theorem ok26 (X : Fx w K mg) {d : Nat} (O : Ok P w K mg base X d) : FnOk P w K mg base (L2.CX P w) (3 * d + 2 + 1) (ad26 K) X.d26.fd ps26 (spF (sta K) D26 (run G flds defs (d + 1) 26)) :=
  def_step X.d26 sc26 D26 (Φ := run G flds defs d) (G := G) rfl rfl rfl (by decide) fun cdv A outer s H E hr tk po =>
    (qone (qif (tnot (tof (sIsi (i_cls rfl X.ins (show 0 < 1 by decide)) (by rfl) X.z_isinstance (sov (pv 0)) (pe_glob (by rfl) X.m_Report rfl)))) (qone qnever) qnil))
theorem ok27 (X : Fx w K mg) {d : Nat} (O : Ok P w K mg base X d) : FnOk P w K mg base (L2.CX P w) (3 * d + 2 + 1) (ad27 K) X.d27.fd ps27 (spF (sta K) D27 (run G flds defs (d + 1) 27)) :=
  def_step X.d27 sc27 D27 (Φ := run G flds defs d) (G := G) rfl rfl rfl (by decide) fun cdv A outer s H E hr tk po =>
    (qone (qretO (sand (scall tk O.o47 (hr.mono (by omega)) (by rfl) X.m47 X.d47.F.kp X.d47.b rfl (acons (sv (pv 0)) anil)) (sone (schain c_le c_le (so (six rfl (sov (pv 1)) (so sint))) (sov (pv 0)) (so (six rfl (sov (pv 1)) (so sint))))))))
theorem ok28 (X : Fx w K mg) {d : Nat} (O : Ok P w K mg base X d) : FnOk P w K mg base (L2.CX P w) (3 * d + 2 + 1) (ad28 K) X.d28.fd ps28 (spF (sta K) D28 (run G flds defs (d + 1) 28)) :=
  def_step X.d28 sc28 D28 (Φ := run G flds defs d) (G := G) rfl rfl rfl (by decide) fun cdv A outer s H E hr tk po =>
    (qone (qretO (sfld rfl X.cls_Report X.na_Report_own_scale (sv (pv 0)))))
theorem ok29 (X : Fx w K mg) {d : Nat} (O : Ok P w K mg base X d) : FnOk P w K mg base (L2.CX P w) (3 * d + 2 + 1) (ad29 K) X.d29.fd ps29 (spF (sta K) D29 (run G flds defs (d + 1) 29)) :=
  def_step X.d29 sc29 D29 (Φ := run G flds defs d) (G := G) rfl rfl rfl (by decide) fun cdv A outer s H E hr tk po =>
    (qcons (qset (.inl rfl) sc29.nd rfl (by first | exact .inl rfl | exact .inr rfl) (sprop rfl X.cls_Report X.pr_Report_facts O.o43 (hr.mono (by omega)) X.d43.b rfl (sv (pv 0))) (hf := .inl rfl)) (qone (qretO (scomp1 (own := [("scores", 2)]) rfl rfl sc29.nd (iseq rfl (scall tk O.o32 (hr.mono (by omega)) (by rfl) X.m32 X.d32.F.kp X.d32.b rfl (acons (sprop rfl X.cls_Report X.pr_Report_people O.o30 (hr.mono (by omega)) X.d30.b rfl (sv (pv 0))) (acons (sprop rfl X.cls_Report X.pr_Report_scale O.o28 (hr.mono (by omega)) X.d28.b rfl (sv (pv 0))) anil)))) (blkOk_by (by kernel_rfl)) (by decide) (fun _ _ _ _ _ => (gnm sc29.nd rfl (by first | exact .inl rfl | exact .inr rfl) (by first | exact .inl rfl | exact .inr rfl))) (fun _ _ _ _ _ => (cone (tof (scall takes0 O.o48 (hr.mono (by omega)) (by rfl) X.m48 X.d48.F.kp X.d48.b rfl (acons (sv (pv 1)) (acons (sv (pv 2)) anil)))))) (fun _ _ _ _ _ => (sv (pv 2)))))))
theorem ok30 (X : Fx w K mg) {d : Nat} (O : Ok P w K mg base X d) : FnOk P w K mg base (L2.CX P w) (3 * d + 2 + 1) (ad30 K) X.d30.fd ps30 (spF (sta K) D30 (run G flds defs (d + 1) 30)) :=
  def_step X.d30 sc30 D30 (Φ := run G flds defs d) (G := G) rfl rfl rfl (by decide) fun cdv A outer s H E hr tk po =>
    (qone (qretO (sfld rfl X.cls_Report X.na_Report_own_people (sv (pv 0)))))
theorem ok31 (X : Fx w K mg) {d : Nat} (O : Ok P w K mg base X d) : FnOk P w K mg base (L2.CX P w) (3 * d + 2 + 1) (ad31 K) X.d31.fd ps31 (spF (sta K) D31 (run G flds defs (d + 1) 31)) :=
  def_step X.d31 sc31 D31 (Φ := run G flds defs d) (G := G) rfl rfl rfl (by decide) fun cdv A outer s H E hr tk po =>
    (qone (qretO (scB1 (k_sum rfl rfl) (by rfl) X.z_sum PyProof.Rows.boot_sum (so (scomp1 (own := [("score", 2)]) rfl rfl sc31.nd (iseq rfl (sv (pv 0))) (blkOk_by (by kernel_rfl)) (by decide) (fun _ _ _ _ _ => (gnm sc31.nd rfl (by first | exact .inl rfl | exact .inr rfl) (by first | exact .inl rfl | exact .inr rfl))) (fun _ _ _ _ _ => cnil) (fun _ _ _ _ _ => (six rfl (so (sgtup (by rfl) X.c_WEIGHTS rfl)) (so (sbin b_sub (sov (pv 2)) (sov (pv 1)))))))))))
theorem ok32 (X : Fx w K mg) {d : Nat} (O : Ok P w K mg base X d) : FnOk P w K mg base (L2.CX P w) (3 * d + 2 + 1) (ad32 K) X.d32.fd ps32 (spF (sta K) D32 (run G flds defs (d + 1) 32)) :=
  def_step X.d32 sc32 D32 (Φ := run G flds defs d) (G := G) rfl rfl rfl (by decide) fun cdv A outer s H E hr tk po =>
    (qcons (qasg (.inl rfl) (sv (pv 1)) (gtp rfl rfl (gscons sc32.nd rfl (by first | exact .inl rfl | exact .inr rfl) (by first | exact .inl rfl | exact .inr rfl) (gscons sc32.nd rfl (by first | exact .inl rfl | exact .inr rfl) (by first | exact .inl rfl | exact .inr rfl) gsnil)))) (qcons (qset (.inl rfl) sc32.nd rfl (by first | exact .inl rfl | exact .inr rfl) (slst (acons (stup anil) anil)) (hf := .inl rfl)) (qcons (qfor (.inl rfl) (fun _ => rfl) (fun _ h => nomatch h) po rfl (irng1 (by rfl) X.z_range (sv (pv 0))) (gnm sc32.nd rfl (by first | exact .inl rfl | exact .inr rfl) (by first | exact .inl rfl | exact .inr rfl)) (qone (qsetC2 (own := [("row", 6), ("score", 7)]) (vs1 := [7]) (.inl rfl) rfl sc32.nd rfl rfl (by rfl) (iseq rfl (sv (pv 4))) (blkOk_by (by kernel_rfl)) (by decide) (by decide) (by decide) (fun _ _ _ _ _ => (gnm sc32.nd rfl (by first | exact .inl rfl | exact .inr rfl) (by first | exact .inl rfl | exact .inr rfl))) (fun _ _ _ _ _ => cnil) (fun _ _ _ _ _ => (irng2 (by rfl) X.z_range (site (tcmp (c_ne rfl (hu65 hr)) (sov (pv 6)) (so (stup anil))) (six rfl (sov (pv 6)) (so (sneg (so sint)))) (sv (pv 2))) (sbin (b_add rfl) (sov (pv 3)) (so sint)))) (fun _ _ _ _ _ => (gnm sc32.nd rfl (by first | exact .inl rfl | exact .inr rfl) (by first | exact .inl rfl | exact .inr rfl))) (fun _ _ _ _ _ => cnil) (fun _ _ _ _ _ => (stup (astar rfl (sv (pv 6)) (acons (sv (pv 7)) anil))))))) (qone (qretO (sv (pv 4)))))))
theorem ok33 (X : Fx w K mg) {d : Nat} (O : Ok P w K mg base X d) : FnOk P w K mg base (L2.CX P w) (3 * d + 2 + 1) (ad33 K) X.d33.fd ps33 (spF (sta K) D33 (run G flds defs (d + 1) 33)) :=
  def_step X.d33 sc33 D33 (Φ := run G flds defs d) (G := G) rfl rfl rfl (by decide) fun cdv A outer s H E hr tk po =>
    (qone (qif (tnot (tof (scall tk O.o49 (hr.mono (by omega)) (by rfl) X.m49 X.d49.F.kp X.d49.b rfl (acons (sv (pv 0)) anil)))) (qone qnever) qnil))
theorem ok34 (X : Fx w K mg) {d : Nat} (O : Ok P w K mg base X d) : FnOk P w K mg base (L2.CX P w) (3 * d + 2 + 1) (ad34 K) X.d34.fd ps34 (spF (sta K) D34 (run G flds defs (d + 1) 34)) :=
  def_step X.d34 sc34 D34 (Φ := run G flds defs d) (G := G) rfl rfl rfl (by decide) fun cdv A outer s H E hr tk po =>
    (qone (qif (tnot (tof (scall tk O.o40 (hr.mono (by omega)) (by rfl) X.m40 X.d40.F.kp X.d40.b rfl (acons (sv (pv 0)) (acons sint (acons (sbin b_sub (so (scB1 (k_len rfl) (by rfl) X.z_len PySem.boot_len (so (sgtup (by rfl) X.c_PARTS rfl)))) (so sint)) anil)))))) (qone qnever) qnil))
theorem ok35 (X : Fx w K mg) {d : Nat} (O : Ok P w K mg base X d) : FnOk P w K mg base (L2.CX P w) (3 * d + 2 + 1) (ad35 K) X.d35.fd ps35 (spF (sta K) D35 (run G flds defs (d + 1) 35)) :=
  def_step X.d35 sc35 D35 (Φ := run G flds defs d) (G := G) rfl rfl rfl (by decide) fun cdv A outer s H E hr tk po =>
    (qcons (qasg (.inl rfl) (sv (pv 1)) (gtp rfl rfl (gscons sc35.nd rfl (by first | exact .inl rfl | exact .inr rfl) (by first | exact .inl rfl | exact .inr rfl) (gscons sc35.nd rfl (by first | exact .inl rfl | exact .inr rfl) (by first | exact .inl rfl | exact .inr rfl) gsnil)))) (qcons (qset (.inl rfl) sc35.nd rfl (by first | exact .inl rfl | exact .inr rfl) (sbin (b_mul rfl) (so sint) (so (six rfl (so (sgtup (by rfl) X.c_PARTS rfl)) (sov (pv 3))))) (hf := .inl rfl)) (qcons (qset (.inl rfl) sc35.nd rfl (by first | exact .inl rfl | exact .inr rfl) (site (tcmp c_gt (sov (pv 2)) (so sint)) (sneg (so (sbin b_div (so (sbin (b_mul rfl) (sov (pv 0)) (so (sbin b_sub (so sint) (so (sbin (b_mul rfl) (so sint) (sov (pv 2)))))))) (sov (pv 6))))) sint) (hf := .inl rfl)) (qcons (qset (.inl rfl) sc35.nd rfl (by first | exact .inl rfl | exact .inr rfl) (sbin b_div (so (sbin b_sub (so (sbin (b_mul rfl) (sov (pv 0)) (so (sbin (b_add rfl) (so (sbin (b_mul rfl) (so sint) (sov (pv 2)))) (so sint))))) (so sint))) (sov (pv 6))) (hf := .inl rfl)) (qone (qretO (stup (acons (scB2 (k_max rfl) (by rfl) X.z_max PyProof.Rows.boot_max (so (sbin (b_mul rfl) (sov (pv 0)) (sov (pv 4)))) (sov (pv 7))) (acons (scB2 (k_min rfl) (by rfl) X.z_min PyProof.Rows.boot_min (so (sbin (b_mul rfl) (sov (pv 0)) (sov (pv 5)))) (sov (pv 8))) anil)))))))))
theorem ok36 (X : Fx w K mg) {d : Nat} (O : Ok P w K mg base X d) : FnOk P w K mg base (L2.CX P w) (3 * d + 2 + 1) (ad36 K) X.d36.fd ps36 (spF (sta K) D36 (run G flds defs (d + 1) 36)) :=
  def_step X.d36 sc36 D36 (Φ := run G flds defs d) (G := G) rfl rfl rfl (by decide) fun cdv A outer s H E hr tk po =>
    (qone (qif (tnot (tof (scall tk O.o40 (hr.mono (by omega)) (by rfl) X.m40 X.d40.F.kp X.d40.b rfl (acons (sv (pv 0)) (acons sint (acons (sgint (by rfl) X.c_MOST_AVERAGED) anil)))))) (qone qnever) qnil))
theorem ok37 (X : Fx w K mg) {d : Nat} (O : Ok P w K mg base X d) : FnOk P w K mg base (L2.CX P w) (3 * d + 2 + 1) (ad37 K) X.d37.fd ps37 (spF (sta K) D37 (run G flds defs (d + 1) 37)) :=
  def_step X.d37 sc37 D37 (Φ := run G flds defs d) (G := G) rfl rfl rfl (by decide) fun cdv A outer s H E hr tk po =>
    (qone (qif (PW.pt (tor (tnot (tof (scall tk O.o49 (hr.mono (by omega)) (by rfl) X.m49 X.d49.F.kp X.d49.b rfl (acons (sv (pv 0)) anil)))) (tor1 (tcmp (c_eq rfl (hu65 hr)) (sov (pv 0)) (so sint))))) (qone qnever) qnil))
theorem ok38 (X : Fx w K mg) {d : Nat} (O : Ok P w K mg base X d) : FnOk P w K mg base (L2.CX P w) (3 * d + 2 + 1) (ad38 K) X.d38.fd ps38 (spF (sta K) D38 (run G flds defs (d + 1) 38)) :=
  def_step X.d38 sc38 D38 (Φ := run G flds defs d) (G := G) rfl rfl rfl (by decide) fun cdv A outer s H E hr tk po =>
    (qone (qretO (scall tk O.o50 (hr.mono (by omega)) (by rfl) X.m50 X.d50.F.kp X.d50.b rfl (acons (sbin (b_mul rfl) (so (six rfl (so (sgtup (by rfl) X.c_PARTS rfl)) (sov (pv 2)))) (sov (pv 1))) (acons (sv (pv 0)) anil)))))
theorem ok39 (X : Fx w K mg) {d : Nat} (O : Ok P w K mg base X d) : FnOk P w K mg base (L2.CX P w) (3 * d + 2 + 1) (ad39 K) X.d39.fd ps39 (spF (sta K) D39 (run G flds defs (d + 1) 39)) :=
  def_step X.d39 sc39 D39 (Φ := run G flds defs d) (G := G) rfl rfl rfl (by decide) fun cdv A outer s H E hr tk po =>
    (qone (qretO (scall tk O.o50 (hr.mono (by omega)) (by rfl) X.m50 X.d50.F.kp X.d50.b rfl (acons (sbin (b_mul rfl) (so (six rfl (so (sgtup (by rfl) X.c_PARTS rfl)) (sov (pv 3)))) (so (sbin b_sub (so (sbin (b_mul rfl) (sov (pv 0)) (sov (pv 2)))) (so (sbin (b_mul rfl) (sov (pv 1)) (sov (pv 1))))))) (acons (sbin (b_mul rfl) (sov (pv 0)) (sov (pv 0))) anil)))))
theorem ok40 (X : Fx w K mg) {d : Nat} (O : Ok P w K mg base X d) : FnOk P w K mg base (L2.CX P w) (3 * d + 2 + 1) (ad40 K) X.d40.fd ps40 (spF (sta K) D40 (run G flds defs (d + 1) 40)) :=
  def_step X.d40 sc40 D40 (Φ := run G flds defs d) (G := G) rfl rfl rfl (by decide) fun cdv A outer s H E hr tk po =>
    (qone (qretO (sand (scall tk O.o47 (hr.mono (by omega)) (by rfl) X.m47 X.d47.F.kp X.d47.b rfl (acons (sv (pv 0)) anil)) (sone (schain c_le c_le (sov (pv 1)) (sov (pv 0)) (sov (pv 2)))))))
theorem ok41 (X : Fx w K mg) {d : Nat} (O : Ok P w K mg base X d) : FnOk P w K mg base (L2.CX P w) (3 * d + 2 + 1) (ad41 K) X.d41.fd ps41 (spF (sta K) D41 (run G flds defs (d + 1) 41)) :=
  def_step X.d41 sc41 D41 (Φ := run G flds defs d) (G := G) rfl rfl rfl (by decide) fun cdv A outer s H E hr tk po =>
    (qcons (qasg (.inl rfl) (stup (acons (sprop rfl X.cls_Report X.pr_Report_facts O.o43 (hr.mono (by omega)) X.d43.b rfl (sv (pv 0))) (acons (scall tk O.o32 (hr.mono (by omega)) (by rfl) X.m32 X.d32.F.kp X.d32.b rfl (acons (sprop rfl X.cls_Report X.pr_Report_people O.o30 (hr.mono (by omega)) X.d30.b rfl (sv (pv 0))) (acons (sprop rfl X.cls_Report X.pr_Report_scale O.o28 (hr.mono (by omega)) X.d28.b rfl (sv (pv 0))) anil))) anil))) (gtp rfl rfl (gscons sc41.nd rfl (by first | exact .inl rfl | exact .inr rfl) (by first | exact .inl rfl | exact .inr rfl) (gscons sc41.nd rfl (by first | exact .inl rfl | exact .inr rfl) (by first | exact .inl rfl | exact .inr rfl) gsnil)))) (qone (qretO (ssortsetT rfl rfl (hu65 hr) (by rfl) X.z_sorted (by rfl) X.z_set (so (scomp1 (own := [("scores", 5)]) rfl rfl sc41.nd (iseq rfl (sv (pv 2))) (blkOk_by (by kernel_rfl)) (by decide) (fun _ _ _ _ _ => (gnm sc41.nd rfl (by first | exact .inl rfl | exact .inr rfl) (by first | exact .inl rfl | exact .inr rfl))) (fun _ _ _ _ _ => cnil) (fun _ _ _ _ _ => (scT1 (k_tuple rfl) (by rfl) X.z_tuple PyProof.Rows.boot_tuple (so (scomp1 (own := [("k", 3), ("fact", 4)]) rfl rfl sc41.nd (ienum rfl (by rfl) X.z_enumerate (sv (pv 1))) (blkOk_by (by kernel_rfl)) (by decide) (fun _ _ _ _ _ => (gtp rfl rfl (gscons sc41.nd rfl (by first | exact .inl rfl | exact .inr rfl) (by first | exact .inl rfl | exact .inr rfl) (gscons sc41.nd rfl (by first | exact .inl rfl | exact .inr rfl) (by first | exact .inl rfl | exact .inr rfl) gsnil)))) (fun _ _ _ _ _ => (cone (tof (scall takes0 O.o51 (hr.mono (by omega)) (by rfl) X.m51 X.d51.F.kp X.d51.b rfl (acons (sv (pv 4)) (acons (sv (pv 5)) anil)))))) (fun _ _ _ _ _ => (sv (pv 3)))))))))))))
theorem ok42 (X : Fx w K mg) {d : Nat} (O : Ok P w K mg base X d) : FnOk P w K mg base (L2.CX P w) (3 * d + 2 + 1) (ad42 K) X.d42.fd ps42 (spF (sta K) D42 (run G flds defs (d + 1) 42)) :=
  def_step X.d42 sc42 D42 (Φ := run G flds defs d) (G := G) rfl rfl rfl (by decide) fun cdv A outer s H E hr tk po =>
    (qcons (qpar (.inl rfl) (.inl rfl) rfl sc42.nd rfl rfl (by decide) rfl rfl (slst (acons (stup anil) anil)) (slst (acons (stup anil) anil)) (by rfl)) (qcons (qfor (.inl rfl) (fun _ => rfl) (fun _ h => nomatch h) po rfl (irng1 (by rfl) X.z_range (sv (pv 0))) (gnm sc42.nd rfl (by first | exact .inl rfl | exact .inr rfl) (by first | exact .inl rfl | exact .inr rfl)) (qcons (qown (.inl rfl) sc42.nd rfl (by first | exact .inl rfl | exact .inr rfl) (slst anil) (hf := .inl rfl)) (qcons (qfor (.inl rfl) (fun _ => rfl) (fun _ h => nomatch h) po rfl (iseq rfl (sv (pv 2))) (gnm sc42.nd rfl (by first | exact .inl rfl | exact .inr rfl) (by first | exact .inl rfl | exact .inr rfl)) (qcons (qset (.inl rfl) sc42.nd rfl (by first | exact .inl rfl | exact .inr rfl) (site (tcmp (c_ne rfl (hu65 hr)) (sov (pv 5)) (so (stup anil))) (sbin (b_add rfl) (so (six rfl (sov (pv 5)) (so (sneg (so sint))))) (so sint)) sint) (hf := .inl rfl)) (qone (qext rfl (pv 4) (scomp1 (own := [("index", 7)]) rfl rfl sc42.nd (irng2 (by rfl) X.z_range (sv (pv 6)) (sv (pv 0))) (blkOk_by (by kernel_rfl)) (by decide) (fun _ _ _ _ _ => (gnm sc42.nd rfl (by first | exact .inl rfl | exact .inr rfl) (by first | exact .inl rfl | exact .inr rfl))) (fun _ _ _ _ _ => cnil) (fun _ _ _ _ _ => (stup (astar rfl (sv (pv 5)) (acons (sv (pv 7)) anil))))))))) (qcons (qext rfl (pv 1) (smv (pv 4))) (qone (qset (.inl rfl) sc42.nd rfl (by first | exact .inl rfl | exact .inr rfl) (sv (pv 4)) (hf := .inl rfl))))))) (qone (qretO (smv (pv 1))))))
theorem ok43 (X : Fx w K mg) {d : Nat} (O : Ok P w K mg base X d) : FnOk P w K mg base (L2.CX P w) (3 * d + 2 + 1) (ad43 K) X.d43.fd ps43 (spF (sta K) D43 (run G flds defs (d + 1) 43)) :=
  def_step X.d43 sc43 D43 (Φ := run G flds defs d) (G := G) rfl rfl rfl (by decide) fun cdv A outer s H E hr tk po =>
    (qone (qretO (sfld rfl X.cls_Report X.na_Report_own_facts (sv (pv 0)))))
theorem ok44 (X : Fx w K mg) {d : Nat} (O : Ok P w K mg base X d) : FnOk P w K mg base (L2.CX P w) (3 * d + 2 + 1) (ad44 K) X.d44.fd ps44 (spF (sta K) D44 (run G flds defs (d + 1) 44)) :=
  def_step X.d44 sc44 D44 (Φ := run G flds defs d) (G := G) rfl rfl rfl (by decide) fun cdv A outer s H E hr tk po =>
    (qone (qretO (scB1 (k_all rfl rfl) (by rfl) X.z_all PyProof.Rows.boot_all (so (scomp1 (own := [("own", 2)]) rfl rfl sc44.nd (iseq rfl (sv (pv 0))) (blkOk_by (by kernel_rfl)) (by decide) (fun _ _ _ _ _ => (gnm sc44.nd rfl (by first | exact .inl rfl | exact .inr rfl) (by first | exact .inl rfl | exact .inr rfl))) (fun _ _ _ _ _ => cnil) (fun _ _ _ _ _ => (scmp (c_in rfl (hu65 hr)) (sov (pv 2)) (sov (pv 1)))))))))
theorem ok45 (X : Fx w K mg) {d : Nat} (O : Ok P w K mg base X d) : FnOk P w K mg base (L2.CX P w) (3 * d + 2 + 1) (ad45 K) X.d45.fd ps45 (spF (sta K) D45 (run G flds defs (d + 1) 45)) :=
  def_step X.d45 sc45 D45 (Φ := run G flds defs d) (G := G) rfl rfl rfl (by decide) fun cdv A outer s H E hr tk po =>
    (qone (qretO (sand (scall tk O.o52 (hr.mono (by omega)) (by rfl) X.m52 X.d52.F.kp X.d52.b rfl (acons (sv (pv 0)) anil)) (sone (scmp c_le (so (six rfl (sov (pv 0)) (so sint))) (so (sgint (by rfl) X.c_MOST_SCORE)))))))
theorem ok46 (X : Fx w K mg) {d : Nat} (O : Ok P w K mg base X d) : FnOk P w K mg base (L2.CX P w) (3 * d + 2 + 1) (ad46 K) X.d46.fd ps46 (spF (sta K) D46 (run G flds defs (d + 1) 46)) :=
  def_step X.d46 sc46 D46 (Φ := run G flds defs d) (G := G) rfl rfl rfl (by decide) fun cdv A outer s H E hr tk po =>
    (qcons (qif (PW.pt (tor (tnot (tof (sIsi (i_tuple rfl X.ins) (by rfl) X.z_isinstance (sov (pv 0)) (pe_bltn (by rfl) X.z_tuple PyProof.Rows.boot_tuple rfl)))) (tor (tcmp (c_eq rfl (hu65 hr)) (sov (pv 0)) (so (stup anil))) (tor (tnot (tof (sIsi (i_str rfl X.ins) (by rfl) X.z_isinstance (so (six rfl (sov (pv 0)) (so sint))) (pe_bltn (by rfl) X.z_str PyProof.Rows.boot_str rfl)))) (tor1 (tdNotIn X.c_FORMS rfl (by rfl) (so (six rfl (sov (pv 0)) (so sint))))))))) (qone (qretO sbl)) qnil) (qcons (qset (.inl rfl) sc46.nd rfl (by first | exact .inl rfl | exact .inr rfl) (six rfl (sov (pv 0)) (so sint)) (hf := .inl rfl)) (qcons (qif (tcmp (c_ne rfl (hu65 hr)) (so (scB1 (k_len rfl) (by rfl) X.z_len PySem.boot_len (sov (pv 0)))) (so (sbin (b_add rfl) (so (scB1 (k_len rfl) (by rfl) X.z_len PySem.boot_len (so (sdGet X.c_FORMS (by rfl) (sov (pv 2)))))) (so sint)))) (qone (qretO sbl)) qnil) (qcons (qif (tcmp (c_in rfl (hu65 hr)) (sov (pv 2)) (so (stup (acons sstr (acons sstr anil))))) (qone (qretO (sand (scall tk O.o40 (hr.mono (by omega)) (by rfl) X.m40 X.d40.F.kp X.d40.b rfl (acons (six rfl (sov (pv 0)) (so sint)) (acons sint (acons (sbin b_sub (so (scB1 (k_len rfl) (by rfl) X.z_len PySem.boot_len (so (sgtup (by rfl) X.c_PARTS rfl)))) (so sint)) anil)))) (sone (scall tk O.o49 (hr.mono (by omega)) (by rfl) X.m49 X.d49.F.kp X.d49.b rfl (acons (six rfl (sov (pv 0)) (so sint)) anil)))))) qnil) (qcons (qif (tcmp (c_eq rfl (hu65 hr)) (sov (pv 2)) (so sstr)) (qone (qretO (scall tk O.o52 (hr.mono (by omega)) (by rfl) X.m52 X.d52.F.kp X.d52.b rfl (acons (six rfl (sov (pv 0)) (so sint)) anil)))) qnil) (qone (qretO (sand (scall tk O.o27 (hr.mono (by omega)) (by rfl) X.m27 X.d27.F.kp X.d27.b rfl (acons (six rfl (sov (pv 0)) (so sint)) (acons (sv (pv 1)) anil))) (sone (sor (scmp (c_ne rfl (hu65 hr)) (sov (pv 2)) (so sstr)) (sone (scall tk O.o52 (hr.mono (by omega)) (by rfl) X.m52 X.d52.F.kp X.d52.b rfl (acons (six rfl (sov (pv 0)) (so sint)) anil)))))))))))))
theorem ok47 (X : Fx w K mg) {d : Nat} (O : Ok P w K mg base X d) : FnOk P w K mg base (L2.CX P w) (3 * d + 2 + 1) (ad47 K) X.d47.fd ps47 (spF (sta K) D47 (run G flds defs (d + 1) 47)) :=
  def_step X.d47 sc47 D47 (Φ := run G flds defs d) (G := G) rfl rfl rfl (by decide) fun cdv A outer s H E hr tk po =>
    (qone (qretO (sand (sIsi (i_int rfl X.ins) (by rfl) X.z_isinstance (sov (pv 0)) (pe_bltn (by rfl) X.z_int PyProof.Rows.boot_int rfl)) (sone (snot (sIsi (i_bool rfl X.ins) (by rfl) X.z_isinstance (sov (pv 0)) (pe_bltn (by rfl) X.z_bool PyProof.Rows.boot_bool rfl)))))))
theorem ok48 (X : Fx w K mg) {d : Nat} (O : Ok P w K mg base X d) : FnOk P w K mg base (L2.CX P w) (3 * d + 2 + 1) (ad48 K) X.d48.fd ps48 (spF (sta K) D48 (run G flds defs (d + 1) 48)) :=
  def_step X.d48 sc48 D48 (Φ := run G flds defs d) (G := G) rfl rfl rfl (by decide) fun cdv A outer s H E hr tk po =>
    (qcons (qfor (.inl rfl) (fun _ => rfl) (fun _ h => nomatch h) po rfl (iseq rfl (sv (pv 0))) (gnm sc48.nd rfl (by first | exact .inl rfl | exact .inr rfl) (by first | exact .inl rfl | exact .inr rfl)) (qone (qif (tnot (tof (scall tk O.o51 (hr.mono (by omega)) (by rfl) X.m51 X.d51.F.kp X.d51.b rfl (acons (sv (pv 2)) (acons (sv (pv 1)) anil))))) (qone (qretO sbl)) qnil))) (qone (qretO sbl)))
theorem ok49 (X : Fx w K mg) {d : Nat} (O : Ok P w K mg base X d) : FnOk P w K mg base (L2.CX P w) (3 * d + 2 + 1) (ad49 K) X.d49.fd ps49 (spF (sta K) D49 (run G flds defs (d + 1) 49)) :=
  def_step X.d49 sc49 D49 (Φ := run G flds defs d) (G := G) rfl rfl rfl (by decide) fun cdv A outer s H E hr tk po =>
    (qone (qretO (sand (scall tk O.o47 (hr.mono (by omega)) (by rfl) X.m47 X.d47.F.kp X.d47.b rfl (acons (sv (pv 0)) anil)) (sone (scmp c_ge (sov (pv 0)) (so sint))))))
theorem ok50 (X : Fx w K mg) {d : Nat} (O : Ok P w K mg base X d) : FnOk P w K mg base (L2.CX P w) (3 * d + 2 + 1) (ad50 K) X.d50.fd ps50 (spF (sta K) D50 (run G flds defs (d + 1) 50)) :=
  def_step X.d50 sc50 D50 (Φ := run G flds defs d) (G := G) rfl rfl rfl (by decide) fun cdv A outer s H E hr tk po =>
    (qone (qretO (sbin b_div (so (sbin (b_add rfl) (so (sbin (b_mul rfl) (so sint) (sov (pv 0)))) (sov (pv 1)))) (so (sbin (b_mul rfl) (so sint) (sov (pv 1)))))))
theorem ok51 (X : Fx w K mg) {d : Nat} (O : Ok P w K mg base X d) : FnOk P w K mg base (L2.CX P w) (3 * d + 2 + 1) (ad51 K) X.d51.fd ps51 (spF (sta K) D51 (run G flds defs (d + 1) 51)) :=
  def_step X.d51 sc51 D51 (Φ := run G flds defs d) (G := G) rfl rfl rfl (by decide) fun cdv A outer s H E hr tk po =>
    (qcons (qpar (.inl rfl) (.inl rfl) rfl sc51.nd rfl rfl (by decide) rfl rfl (six rfl (sov (pv 0)) (so sint)) (scB1 (k_len rfl) (by rfl) X.z_len PySem.boot_len (sov (pv 1))) (by rfl)) (qcons (qif (tcmp (c_eq rfl (hu65 hr)) (sov (pv 2)) (so sstr)) (qone (qretO (scmp (c_eq rfl (hu65 hr)) (so (scall tk O.o38 (hr.mono (by omega)) (by rfl) X.m38 X.d38.F.kp X.d38.b rfl (acons (sv (pv 3)) (acons (scB1 (k_sum rfl rfl) (by rfl) X.z_sum PyProof.Rows.boot_sum (sov (pv 1))) (acons (six rfl (sov (pv 0)) (so sint)) anil))))) (so (six rfl (sov (pv 0)) (so sint)))))) qnil) (qcons (qif (tcmp (c_eq rfl (hu65 hr)) (sov (pv 2)) (so sstr)) (qone (qretO (scmp (c_eq rfl (hu65 hr)) (so (scall tk O.o39 (hr.mono (by omega)) (by rfl) X.m39 X.d39.F.kp X.d39.b rfl (acons (sv (pv 3)) (acons (scB1 (k_sum rfl rfl) (by rfl) X.z_sum PyProof.Rows.boot_sum (sov (pv 1))) (acons (scall tk O.o53 (hr.mono (by omega)) (by rfl) X.m53 X.d53.F.kp X.d53.b rfl (acons (sv (pv 1)) anil)) (acons (six rfl (sov (pv 0)) (so sint)) anil)))))) (so (six rfl (sov (pv 0)) (so sint)))))) qnil) (qcons (qif (tcmp (c_eq rfl (hu65 hr)) (sov (pv 2)) (so sstr)) (qone (qretO (scall tk O.o27 (hr.mono (by omega)) (by rfl) X.m27 X.d27.F.kp X.d27.b rfl (acons (scB1 (k_sum rfl rfl) (by rfl) X.z_sum PyProof.Rows.boot_sum (sov (pv 1))) (acons (six rfl (sov (pv 0)) (so sint)) anil))))) qnil) (qcons (qif (tcmp (c_eq rfl (hu65 hr)) (sov (pv 2)) (so sstr)) (qone (qretO (scmp (c_eq rfl (hu65 hr)) (so (scall tk O.o54 (hr.mono (by omega)) (by rfl) X.m54 X.d54.F.kp X.d54.b rfl (acons (sv (pv 1)) anil))) (so (six rfl (sov (pv 0)) (so sint)))))) qnil) (qcons (qif (tcmp (c_eq rfl (hu65 hr)) (sov (pv 2)) (so sstr)) (qone (qretO (scmp (c_eq rfl (hu65 hr)) (so (six rfl (sov (pv 1)) (so sint))) (so (six rfl (sov (pv 0)) (so sint)))))) qnil) (qcons (qif (tcmp (c_eq rfl (hu65 hr)) (sov (pv 2)) (so sstr)) (qone (qretO (scmp (c_eq rfl (hu65 hr)) (so (six rfl (sov (pv 1)) (so (sneg (so sint))))) (so (six rfl (sov (pv 0)) (so sint)))))) qnil) (qone (qretO (scall tk O.o27 (hr.mono (by omega)) (by rfl) X.m27 X.d27.F.kp X.d27.b rfl (acons (scount rfl (hu65 hr) (sv (pv 1)) (six rfl (sov (pv 0)) (so sint))) (acons (six rfl (sov (pv 0)) (so sint)) anil))))))))))))
theorem ok52 (X : Fx w K mg) {d : Nat} (O : Ok P w K mg base X d) : FnOk P w K mg base (L2.CX P w) (3 * d + 2 + 1) (ad52 K) X.d52.fd ps52 (spF (sta K) D52 (run G flds defs (d + 1) 52)) :=
  def_step X.d52 sc52 D52 (Φ := run G flds defs d) (G := G) rfl rfl rfl (by decide) fun cdv A outer s H E hr tk po =>
    (qcons (qif (PW.pt (tor (tnot (tof (scall tk O.o55 (hr.mono (by omega)) (by rfl) X.m55 X.d55.F.kp X.d55.b rfl (acons (sv (pv 0)) (acons sint anil))))) (tor1 (tnot (tof (scB1 (k_all rfl rfl) (by rfl) X.z_all PyProof.Rows.boot_all (so (scomp1 (own := [("end", 1)]) rfl rfl sc52.nd (iseq rfl (sv (pv 0))) (blkOk_by (by kernel_rfl)) (by decide) (fun _ _ _ _ _ => (gnm sc52.nd rfl (by first | exact .inl rfl | exact .inr rfl) (by first | exact .inl rfl | exact .inr rfl))) (fun _ _ _ _ _ => cnil) (fun _ _ _ _ _ => (scall takes0 O.o40 (hr.mono (by omega)) (by rfl) X.m40 X.d40.F.kp X.d40.b rfl (acons (sv (pv 1)) (acons sint (acons (sgint (by rfl) X.c_MOST_NUMBER) anil))))))))))))) (qone (qretO sbl)) qnil) (qone (qretO (scmp c_le (so (six rfl (sov (pv 0)) (so sint))) (so (six rfl (sov (pv 0)) (so sint)))))))
theorem ok53 (X : Fx w K mg) {d : Nat} (O : Ok P w K mg base X d) : FnOk P w K mg base (L2.CX P w) (3 * d + 2 + 1) (ad53 K) X.d53.fd ps53 (spF (sta K) D53 (run G flds defs (d + 1) 53)) :=
  def_step X.d53 sc53 D53 (Φ := run G flds defs d) (G := G) rfl rfl rfl (by decide) fun cdv A outer s H E hr tk po =>
    (qone (qretO (scB1 (k_sum rfl rfl) (by rfl) X.z_sum PyProof.Rows.boot_sum (so (scomp1 (own := [("score", 1)]) rfl rfl sc53.nd (iseq rfl (sv (pv 0))) (blkOk_by (by kernel_rfl)) (by decide) (fun _ _ _ _ _ => (gnm sc53.nd rfl (by first | exact .inl rfl | exact .inr rfl) (by first | exact .inl rfl | exact .inr rfl))) (fun _ _ _ _ _ => cnil) (fun _ _ _ _ _ => (sbin (b_mul rfl) (sov (pv 1)) (sov (pv 1)))))))))
theorem ok54 (X : Fx w K mg) {d : Nat} (O : Ok P w K mg base X d) : FnOk P w K mg base (L2.CX P w) (3 * d + 2 + 1) (ad54 K) X.d54.fd ps54 (spF (sta K) D54 (run G flds defs (d + 1) 54)) :=
  def_step X.d54 sc54 D54 (Φ := run G flds defs d) (G := G) rfl rfl rfl (by decide) fun cdv A outer s H E hr tk po =>
    (qone (qretO (six rfl (sov (pv 0)) (so (sbin b_div (so (sbin b_sub (so (scB1 (k_len rfl) (by rfl) X.z_len PySem.boot_len (sov (pv 0)))) (so sint))) (so sint))))))
theorem ok55 (X : Fx w K mg) {d : Nat} (O : Ok P w K mg base X d) : FnOk P w K mg base (L2.CX P w) (3 * d + 2 + 1) (ad55 K) X.d55.fd ps55 (spF (sta K) D55 (run G flds defs (d + 1) 55)) :=
  def_step X.d55 sc55 D55 (Φ := run G flds defs d) (G := G) rfl rfl rfl (by decide) fun cdv A outer s H E hr tk po =>
    (qone (qretO (sand (sIsi (i_tuple rfl X.ins) (by rfl) X.z_isinstance (sov (pv 0)) (pe_bltn (by rfl) X.z_tuple PyProof.Rows.boot_tuple rfl)) (sone (scmp (c_eq rfl (hu65 hr)) (so (scB1 (k_len rfl) (by rfl) X.z_len PySem.boot_len (sov (pv 0)))) (sov (pv 1)))))))
theorem okAll (X : Fx w K mg) : ∀ d, Ok P w K mg base X d
  | 0 => ⟨fnOk_zero, fnOk_zero, fnOk_zero, fnOk_zero, fnOk_zero, fnOk_zero, fnOk_zero, fnOk_zero, fnOk_zero, fnOk_zero, fnOk_zero, fnOk_zero, fnOk_zero, fnOk_zero, fnOk_zero, fnOk_zero, fnOk_zero, fnOk_zero, fnOk_zero, fnOk_zero, fnOk_zero, fnOk_zero, fnOk_zero, fnOk_zero, fnOk_zero, fnOk_zero, fnOk_zero, fnOk_zero, fnOk_zero, fnOk_zero, fnOk_zero, fnOk_zero, fnOk_zero, fnOk_zero, fnOk_zero, fnOk_zero, fnOk_zero, fnOk_zero, fnOk_zero, fnOk_zero, fnOk_zero, fnOk_zero, fnOk_zero, fnOk_zero, fnOk_zero, fnOk_zero, fnOk_zero, fnOk_zero, fnOk_zero, fnOk_zero, fnOk_zero, fnOk_zero, fnOk_zero, fnOk_zero, fnOk_zero, fnOk_zero⟩
  | d + 1 => ⟨(ok0 X (okAll X d)).mono (by omega), (ok1 X (okAll X d)).mono (by omega), (ok2 X (okAll X d)).mono (by omega), (ok3 X (okAll X d)).mono (by omega), (ok4 X (okAll X d)).mono (by omega), (ok5 X (okAll X d)).mono (by omega), (ok6 X (okAll X d)).mono (by omega), (ok7 X (okAll X d)).mono (by omega), (ok8 X (okAll X d)).mono (by omega), (ok9 X (okAll X d)).mono (by omega), (ok10 X (okAll X d)).mono (by omega), (ok11 X (okAll X d)).mono (by omega), (ok12 X (okAll X d)).mono (by omega), (ok13 X (okAll X d)).mono (by omega), (ok14 X (okAll X d)).mono (by omega), (ok15 X (okAll X d)).mono (by omega), (ok16 X (okAll X d)).mono (by omega), (ok17 X (okAll X d)).mono (by omega), (ok18 X (okAll X d)).mono (by omega), (ok19 X (okAll X d)).mono (by omega), (ok20 X (okAll X d)).mono (by omega), (ok21 X (okAll X d)).mono (by omega), (ok22 X (okAll X d)).mono (by omega), (ok23 X (okAll X d)).mono (by omega), (ok24 X (okAll X d)).mono (by omega), (ok25 X (okAll X d)).mono (by omega), (ok26 X (okAll X d)).mono (by omega), (ok27 X (okAll X d)).mono (by omega), (ok28 X (okAll X d)).mono (by omega), (ok29 X (okAll X d)).mono (by omega), (ok30 X (okAll X d)).mono (by omega), (ok31 X (okAll X d)).mono (by omega), (ok32 X (okAll X d)).mono (by omega), (ok33 X (okAll X d)).mono (by omega), (ok34 X (okAll X d)).mono (by omega), (ok35 X (okAll X d)).mono (by omega), (ok36 X (okAll X d)).mono (by omega), (ok37 X (okAll X d)).mono (by omega), (ok38 X (okAll X d)).mono (by omega), (ok39 X (okAll X d)).mono (by omega), (ok40 X (okAll X d)).mono (by omega), (ok41 X (okAll X d)).mono (by omega), (ok42 X (okAll X d)).mono (by omega), (ok43 X (okAll X d)).mono (by omega), (ok44 X (okAll X d)).mono (by omega), (ok45 X (okAll X d)).mono (by omega), (ok46 X (okAll X d)).mono (by omega), (ok47 X (okAll X d)).mono (by omega), (ok48 X (okAll X d)).mono (by omega), (ok49 X (okAll X d)).mono (by omega), (ok50 X (okAll X d)).mono (by omega), (ok51 X (okAll X d)).mono (by omega), (ok52 X (okAll X d)).mono (by omega), (ok53 X (okAll X d)).mono (by omega), (ok54 X (okAll X d)).mono (by omega), (ok55 X (okAll X d)).mono (by omega)⟩
end
def defsA : List He5.DefA := [⟨ad0, "law", "law", pa0, bd0, scp0, [], []⟩,
  ⟨ad1, "_law_right", "_law_right", pa1, bd1, scp1, [], []⟩,
  ⟨ad2, "_law_pail", "_law_pail", pa2, bd2, scp2, [], []⟩,
  ⟨ad3, "_law_sup", "_law_sup", pa3, bd3, scp3, [], []⟩,
  ⟨ad4, "_law_means_right", "_law_means_right", pa4, bd4, scp4, [], []⟩,
  ⟨ad5, "_law_reports_right", "_law_reports_right", pa5, bd5, scp5, [], []⟩,
  ⟨ad6, "__init__", "Report.__init__", pa6, bd6, scp6, [], []⟩,
  ⟨ad7, "holders", "holders", pa7, bd7, scp7, [], []⟩,
  ⟨ad8, "first_scores", "first_scores", pa8, bd8, scp8, [], []⟩,
  ⟨ad9, "rest_totals", "rest_totals", pa9, bd9, scp9, [], []⟩,
  ⟨ad10, "totals_for", "totals_for", pa10, bd10, scp10, [], []⟩,
  ⟨ad11, "people_for_mean", "people_for_mean", pa11, bd11, scp11, [], []⟩,
  ⟨ad12, "squares_for", "squares_for", pa12, bd12, scp12, [], []⟩,
  ⟨ad13, "told_mean", "told_mean", pa13, bd13, scp13, [], []⟩,
  ⟨ad14, "told_spread", "told_spread", pa14, bd14, scp14, [], []⟩,
  ⟨ad15, "last_scores", "last_scores", pa15, bd15, scp15, [], []⟩,
  ⟨ad16, "scores_number", "scores_number", pa16, bd16, scp16, [], []⟩,
  ⟨ad17, "totals", "totals", pa17, bd17, scp17, [], []⟩,
  ⟨ad18, "scores_at", "scores_at", pa18, bd18, scp18, [], []⟩,
  ⟨ad19, "least_clashes", "least_clashes", pa19, bd19, scp19, [], []⟩,
  ⟨ad20, "needless_facts", "needless_facts", pa20, bd20, scp20, [], []⟩,
  ⟨ad21, "check_people_to", "check_people_to", pa21, bd21, scp21, [], []⟩,
  ⟨ad22, "check_scale", "check_scale", pa22, bd22, scp22, [], []⟩,
  ⟨ad23, "check_facts", "check_facts", pa23, bd23, scp23, [], []⟩,
  ⟨ad24, "written_stretch", "written_stretch", pa24, bd24, scp24, [], []⟩,
  ⟨ad25, "fact_text", "fact_text", pa25, bd25, scp25, [], []⟩,
  ⟨ad26, "check_report", "check_report", pa26, bd26, scp26, [], []⟩,
  ⟨ad27, "lies_in", "lies_in", pa27, bd27, scp27, [], []⟩,
  ⟨ad28, "scale", "Report.scale", pa28, bd28, scp28, [], []⟩,
  ⟨ad29, "fitting_scores", "fitting_scores", pa29, bd29, scp29, [], []⟩,
  ⟨ad30, "people", "Report.people", pa30, bd30, scp30, [], []⟩,
  ⟨ad31, "code_of", "code_of", pa31, bd31, scp31, [], []⟩,
  ⟨ad32, "all_scores", "all_scores", pa32, bd32, scp32, [], []⟩,
  ⟨ad33, "check_total", "check_total", pa33, bd33, scp33, [], []⟩,
  ⟨ad34, "check_places", "check_places", pa34, bd34, scp34, [], []⟩,
  ⟨ad35, "total_ends", "total_ends", pa35, bd35, scp35, [], []⟩,
  ⟨ad36, "check_most", "check_most", pa36, bd36, scp36, [], []⟩,
  ⟨ad37, "check_people", "check_people", pa37, bd37, scp37, [], []⟩,
  ⟨ad38, "mean_of", "mean_of", pa38, bd38, scp38, [], []⟩,
  ⟨ad39, "spread_of", "spread_of", pa39, bd39, scp39, [], []⟩,
  ⟨ad40, "is_within", "is_within", pa40, bd40, scp40, [], []⟩,
  ⟨ad41, "told_lots", "told_lots", pa41, bd41, scp41, [], []⟩,
  ⟨ad42, "lots_of", "lots_of", pa42, bd42, scp42, [], []⟩,
  ⟨ad43, "facts", "Report.facts", pa43, bd43, scp43, [], []⟩,
  ⟨ad44, "is_part", "is_part", pa44, bd44, scp44, [], []⟩,
  ⟨ad45, "is_scale", "is_scale", pa45, bd45, scp45, [], []⟩,
  ⟨ad46, "is_fact", "is_fact", pa46, bd46, scp46, [], []⟩,
  ⟨ad47, "is_integer", "is_integer", pa47, bd47, scp47, [], []⟩,
  ⟨ad48, "are_told", "are_told", pa48, bd48, scp48, [], []⟩,
  ⟨ad49, "is_natural", "is_natural", pa49, bd49, scp49, [], []⟩,
  ⟨ad50, "next_whole", "next_whole", pa50, bd50, scp50, [], []⟩,
  ⟨ad51, "is_told", "is_told", pa51, bd51, scp51, [], []⟩,
  ⟨ad52, "is_stretch", "is_stretch", pa52, bd52, scp52, [], []⟩,
  ⟨ad53, "squares_of", "squares_of", pa53, bd53, scp53, [], []⟩,
  ⟨ad54, "middle_of", "middle_of", pa54, bd54, scp54, [], []⟩,
  ⟨ad55, "is_tuple_of", "is_tuple_of", pa55, bd55, scp55, [], []⟩]
def factsA : List He.Fa := [.glo "law", .glo "_law_right", .glo "_law_pail", .glo "_law_sup", .glo "_law_means_right", .glo "_law_reports_right", .glo "holders", .glo "first_scores", .glo "rest_totals", .glo "totals_for", .glo "people_for_mean", .glo "squares_for", .glo "told_mean", .glo "told_spread", .glo "last_scores", .glo "scores_number", .glo "totals", .glo "scores_at", .glo "least_clashes", .glo "needless_facts", .glo "check_people_to", .glo "check_scale", .glo "check_facts", .glo "written_stretch", .glo "fact_text", .glo "check_report", .glo "lies_in", .glo "fitting_scores", .glo "code_of", .glo "all_scores", .glo "check_total", .glo "check_places", .glo "total_ends", .glo "check_most", .glo "check_people", .glo "mean_of", .glo "spread_of", .glo "is_within", .glo "told_lots", .glo "lots_of", .glo "is_part", .glo "is_scale", .glo "is_fact", .glo "is_integer", .glo "are_told", .glo "is_natural", .glo "next_whole", .glo "is_told", .glo "is_stretch", .glo "squares_of", .glo "middle_of", .glo "is_tuple_of", .free "abs", .free "all", .free "any", .free "bool", .free "divmod", .free "enumerate", .free "int", .free "isinstance", .free "len", .free "max", .free "min", .free "range", .free "set", .free "sorted", .free "str", .free "sum", .free "tuple", .glo "FORMS", .int "MOST_AVERAGED" 3000, .int "MOST_FACTS" 6, .int "MOST_NUMBER" 4000, .int "MOST_PEOPLE" 12, .int "MOST_SCORE" 6, .glo "PARTS", .glo "WEIGHTS", .glo "Report", .mkr "Report", .cls "Report", .noat "Report" "own_people", .noat "Report" "own_scale", .noat "Report" "own_facts", .noat "Report" "own_text"]
def moreA (K : PySem.W.Frag) : List Bool := [dkB K "FORMS" dk_FORMS, He.tupB K "PARTS" (([1, 10, 100] : List Int).map He.Dv.int), He.tupB K "WEIGHTS" (([1, 13, 169, 2197, 28561, 371293, 4826809] : List Int).map He.Dv.int), propB K ((sta K).cl 0) "people" (He.ma K (He.ga K "Report") "people") (ad30 K), propB K ((sta K).cl 0) "scale" (He.ma K (He.ga K "Report") "scale") (ad28 K), propB K ((sta K).cl 0) "facts" (He.ma K (He.ga K "Report") "facts") (ad43 K), insB K (sta K).cl 1]
theorem fx_of {w : World} {h : Heap} {K : PySem.W.Frag} {mg : Str → Option Value} (KX : K.In h) (Gm : h.Ns mainGlobals mg) (S : He5.SaysA factsA defsA K) (M : (moreA K).all id = true) (K_FORMS : He.dicW K (He.ga K "FORMS") = some (He.keysIn w.params ["mean", "spread", "total", "middle", "least", "greatest", "holders"])) : Nonempty (Fx w K mg) := by
  obtain ⟨e0⟩ := DF.of (ps := ps0) (S.def_ 0) (fun _ _ _ _ _ _ us hl => match us, hl with | [_], _ => by kernel_rfl)
  obtain ⟨e1⟩ := DF.of (ps := ps1) (S.def_ 1) (fun _ _ _ _ _ _ us hl => match us, hl with | [_], _ => by kernel_rfl)
  obtain ⟨e2⟩ := DF.of (ps := ps2) (S.def_ 2) (fun _ _ _ _ _ _ us hl => match us, hl with | [_, _], _ => by kernel_rfl)
  obtain ⟨e3⟩ := DF.of (ps := ps3) (S.def_ 3) (fun _ _ _ _ _ _ us hl => match us, hl with | [_, _], _ => by kernel_rfl)
  obtain ⟨e4⟩ := DF.of (ps := ps4) (S.def_ 4) (fun _ _ _ _ _ _ us hl => match us, hl with | [_], _ => by kernel_rfl)
  obtain ⟨e5⟩ := DF.of (ps := ps5) (S.def_ 5) (fun _ _ _ _ _ _ us hl => match us, hl with | [_], _ => by kernel_rfl)
  obtain ⟨e6⟩ := DF.of (ps := ps6) (S.def_ 6) (fun _ _ _ _ _ _ us hl => match us, hl with | [_, _, _, _], _ => by kernel_rfl)
  obtain ⟨e7⟩ := DF.of (ps := ps7) (S.def_ 7) (fun _ _ _ _ _ _ us hl => match us, hl with | [_, _], _ => by kernel_rfl)
  obtain ⟨e8⟩ := DF.of (ps := ps8) (S.def_ 8) (fun _ _ _ _ _ _ us hl => match us, hl with | [_], _ => by kernel_rfl)
  obtain ⟨e9⟩ := DF.of (ps := ps9) (S.def_ 9) (fun _ _ _ _ _ _ us hl => match us, hl with | [_, _], _ => by kernel_rfl)
  obtain ⟨e10⟩ := DF.of (ps := ps10) (S.def_ 10) (fun _ _ _ _ _ _ us hl => match us, hl with | [_, _, _, _], _ => by kernel_rfl)
  obtain ⟨e11⟩ := DF.of (ps := ps11) (S.def_ 11) (fun _ _ _ _ _ _ us hl => match us, hl with | [_, _, _, _], _ => by kernel_rfl)
  obtain ⟨e12⟩ := DF.of (ps := ps12) (S.def_ 12) (fun _ _ _ _ _ _ us hl => match us, hl with | [_, _, _], _ => by kernel_rfl)
  obtain ⟨e13⟩ := DF.of (ps := ps13) (S.def_ 13) (fun _ _ _ _ _ _ us hl => match us, hl with | [_, _, _], _ => by kernel_rfl)
  obtain ⟨e14⟩ := DF.of (ps := ps14) (S.def_ 14) (fun _ _ _ _ _ _ us hl => match us, hl with | [_, _, _, _], _ => by kernel_rfl)
  obtain ⟨e15⟩ := DF.of (ps := ps15) (S.def_ 15) (fun _ _ _ _ _ _ us hl => match us, hl with | [_], _ => by kernel_rfl)
  obtain ⟨e16⟩ := DF.of (ps := ps16) (S.def_ 16) (fun _ _ _ _ _ _ us hl => match us, hl with | [_], _ => by kernel_rfl)
  obtain ⟨e17⟩ := DF.of (ps := ps17) (S.def_ 17) (fun _ _ _ _ _ _ us hl => match us, hl with | [_], _ => by kernel_rfl)
  obtain ⟨e18⟩ := DF.of (ps := ps18) (S.def_ 18) (fun _ _ _ _ _ _ us hl => match us, hl with | [_, _], _ => by kernel_rfl)
  obtain ⟨e19⟩ := DF.of (ps := ps19) (S.def_ 19) (fun _ _ _ _ _ _ us hl => match us, hl with | [_], _ => by kernel_rfl)
  obtain ⟨e20⟩ := DF.of (ps := ps20) (S.def_ 20) (fun _ _ _ _ _ _ us hl => match us, hl with | [_], _ => by kernel_rfl)
  obtain ⟨e21⟩ := DF.of (ps := ps21) (S.def_ 21) (fun _ _ _ _ _ _ us hl => match us, hl with | [_, _], _ => by kernel_rfl)
  obtain ⟨e22⟩ := DF.of (ps := ps22) (S.def_ 22) (fun _ _ _ _ _ _ us hl => match us, hl with | [_], _ => by kernel_rfl)
  obtain ⟨e23⟩ := DF.of (ps := ps23) (S.def_ 23) (fun _ _ _ _ _ _ us hl => match us, hl with | [_, _], _ => by kernel_rfl)
  obtain ⟨e24⟩ := DF.of (ps := ps24) (S.def_ 24) (fun _ _ _ _ _ _ us hl => match us, hl with | [_], _ => by kernel_rfl)
  obtain ⟨e25⟩ := DF.of (ps := ps25) (S.def_ 25) (fun _ _ _ _ _ _ us hl => match us, hl with | [_], _ => by kernel_rfl)
  obtain ⟨e26⟩ := DF.of (ps := ps26) (S.def_ 26) (fun _ _ _ _ _ _ us hl => match us, hl with | [_], _ => by kernel_rfl)
  obtain ⟨e27⟩ := DF.of (ps := ps27) (S.def_ 27) (fun _ _ _ _ _ _ us hl => match us, hl with | [_, _], _ => by kernel_rfl)
  obtain ⟨e28⟩ := DF.of (ps := ps28) (S.def_ 28) (fun _ _ _ _ _ _ us hl => match us, hl with | [_], _ => by kernel_rfl)
  obtain ⟨e29⟩ := DF.of (ps := ps29) (S.def_ 29) (fun _ _ _ _ _ _ us hl => match us, hl with | [_], _ => by kernel_rfl)
  obtain ⟨e30⟩ := DF.of (ps := ps30) (S.def_ 30) (fun _ _ _ _ _ _ us hl => match us, hl with | [_], _ => by kernel_rfl)
  obtain ⟨e31⟩ := DF.of (ps := ps31) (S.def_ 31) (fun _ _ _ _ _ _ us hl => match us, hl with | [_, _], _ => by kernel_rfl)
  obtain ⟨e32⟩ := DF.of (ps := ps32) (S.def_ 32) (fun _ _ _ _ _ _ us hl => match us, hl with | [_, _], _ => by kernel_rfl)
  obtain ⟨e33⟩ := DF.of (ps := ps33) (S.def_ 33) (fun _ _ _ _ _ _ us hl => match us, hl with | [_], _ => by kernel_rfl)
  obtain ⟨e34⟩ := DF.of (ps := ps34) (S.def_ 34) (fun _ _ _ _ _ _ us hl => match us, hl with | [_], _ => by kernel_rfl)
  obtain ⟨e35⟩ := DF.of (ps := ps35) (S.def_ 35) (fun _ _ _ _ _ _ us hl => match us, hl with | [_, _, _, _], _ => by kernel_rfl)
  obtain ⟨e36⟩ := DF.of (ps := ps36) (S.def_ 36) (fun _ _ _ _ _ _ us hl => match us, hl with | [_], _ => by kernel_rfl)
  obtain ⟨e37⟩ := DF.of (ps := ps37) (S.def_ 37) (fun _ _ _ _ _ _ us hl => match us, hl with | [_], _ => by kernel_rfl)
  obtain ⟨e38⟩ := DF.of (ps := ps38) (S.def_ 38) (fun _ _ _ _ _ _ us hl => match us, hl with | [_, _, _], _ => by kernel_rfl)
  obtain ⟨e39⟩ := DF.of (ps := ps39) (S.def_ 39) (fun _ _ _ _ _ _ us hl => match us, hl with | [_, _, _, _], _ => by kernel_rfl)
  obtain ⟨e40⟩ := DF.of (ps := ps40) (S.def_ 40) (fun _ _ _ _ _ _ us hl => match us, hl with | [_, _, _], _ => by kernel_rfl)
  obtain ⟨e41⟩ := DF.of (ps := ps41) (S.def_ 41) (fun _ _ _ _ _ _ us hl => match us, hl with | [_], _ => by kernel_rfl)
  obtain ⟨e42⟩ := DF.of (ps := ps42) (S.def_ 42) (fun _ _ _ _ _ _ us hl => match us, hl with | [_], _ => by kernel_rfl)
  obtain ⟨e43⟩ := DF.of (ps := ps43) (S.def_ 43) (fun _ _ _ _ _ _ us hl => match us, hl with | [_], _ => by kernel_rfl)
  obtain ⟨e44⟩ := DF.of (ps := ps44) (S.def_ 44) (fun _ _ _ _ _ _ us hl => match us, hl with | [_, _], _ => by kernel_rfl)
  obtain ⟨e45⟩ := DF.of (ps := ps45) (S.def_ 45) (fun _ _ _ _ _ _ us hl => match us, hl with | [_], _ => by kernel_rfl)
  obtain ⟨e46⟩ := DF.of (ps := ps46) (S.def_ 46) (fun _ _ _ _ _ _ us hl => match us, hl with | [_, _], _ => by kernel_rfl)
  obtain ⟨e47⟩ := DF.of (ps := ps47) (S.def_ 47) (fun _ _ _ _ _ _ us hl => match us, hl with | [_], _ => by kernel_rfl)
  obtain ⟨e48⟩ := DF.of (ps := ps48) (S.def_ 48) (fun _ _ _ _ _ _ us hl => match us, hl with | [_, _], _ => by kernel_rfl)
  obtain ⟨e49⟩ := DF.of (ps := ps49) (S.def_ 49) (fun _ _ _ _ _ _ us hl => match us, hl with | [_], _ => by kernel_rfl)
  obtain ⟨e50⟩ := DF.of (ps := ps50) (S.def_ 50) (fun _ _ _ _ _ _ us hl => match us, hl with | [_, _], _ => by kernel_rfl)
  obtain ⟨e51⟩ := DF.of (ps := ps51) (S.def_ 51) (fun _ _ _ _ _ _ us hl => match us, hl with | [_, _], _ => by kernel_rfl)
  obtain ⟨e52⟩ := DF.of (ps := ps52) (S.def_ 52) (fun _ _ _ _ _ _ us hl => match us, hl with | [_], _ => by kernel_rfl)
  obtain ⟨e53⟩ := DF.of (ps := ps53) (S.def_ 53) (fun _ _ _ _ _ _ us hl => match us, hl with | [_], _ => by kernel_rfl)
  obtain ⟨e54⟩ := DF.of (ps := ps54) (S.def_ 54) (fun _ _ _ _ _ _ us hl => match us, hl with | [_], _ => by kernel_rfl)
  obtain ⟨e55⟩ := DF.of (ps := ps55) (S.def_ 55) (fun _ _ _ _ _ _ us hl => match us, hl with | [_, _], _ => by kernel_rfl)
  exact ⟨{ d0 := e0, m0 := He.glo_ok KX Gm (S.fact 0), d1 := e1, m1 := He.glo_ok KX Gm (S.fact 1), d2 := e2, m2 := He.glo_ok KX Gm (S.fact 2), d3 := e3, m3 := He.glo_ok KX Gm (S.fact 3), d4 := e4, m4 := He.glo_ok KX Gm (S.fact 4), d5 := e5, m5 := He.glo_ok KX Gm (S.fact 5), d6 := e6, d7 := e7, m7 := He.glo_ok KX Gm (S.fact 6), d8 := e8, m8 := He.glo_ok KX Gm (S.fact 7), d9 := e9, m9 := He.glo_ok KX Gm (S.fact 8), d10 := e10, m10 := He.glo_ok KX Gm (S.fact 9), d11 := e11, m11 := He.glo_ok KX Gm (S.fact 10), d12 := e12, m12 := He.glo_ok KX Gm (S.fact 11), d13 := e13, m13 := He.glo_ok KX Gm (S.fact 12), d14 := e14, m14 := He.glo_ok KX Gm (S.fact 13), d15 := e15, m15 := He.glo_ok KX Gm (S.fact 14), d16 := e16, m16 := He.glo_ok KX Gm (S.fact 15), d17 := e17, m17 := He.glo_ok KX Gm (S.fact 16), d18 := e18, m18 := He.glo_ok KX Gm (S.fact 17), d19 := e19, m19 := He.glo_ok KX Gm (S.fact 18), d20 := e20, m20 := He.glo_ok KX Gm (S.fact 19), d21 := e21, m21 := He.glo_ok KX Gm (S.fact 20), d22 := e22, m22 := He.glo_ok KX Gm (S.fact 21), d23 := e23, m23 := He.glo_ok KX Gm (S.fact 22), d24 := e24, m24 := He.glo_ok KX Gm (S.fact 23), d25 := e25, m25 := He.glo_ok KX Gm (S.fact 24), d26 := e26, m26 := He.glo_ok KX Gm (S.fact 25), d27 := e27, m27 := He.glo_ok KX Gm (S.fact 26), d28 := e28, d29 := e29, m29 := He.glo_ok KX Gm (S.fact 27), d30 := e30, d31 := e31, m31 := He.glo_ok KX Gm (S.fact 28), d32 := e32, m32 := He.glo_ok KX Gm (S.fact 29), d33 := e33, m33 := He.glo_ok KX Gm (S.fact 30), d34 := e34, m34 := He.glo_ok KX Gm (S.fact 31), d35 := e35, m35 := He.glo_ok KX Gm (S.fact 32), d36 := e36, m36 := He.glo_ok KX Gm (S.fact 33), d37 := e37, m37 := He.glo_ok KX Gm (S.fact 34), d38 := e38, m38 := He.glo_ok KX Gm (S.fact 35), d39 := e39, m39 := He.glo_ok KX Gm (S.fact 36), d40 := e40, m40 := He.glo_ok KX Gm (S.fact 37), d41 := e41, m41 := He.glo_ok KX Gm (S.fact 38), d42 := e42, m42 := He.glo_ok KX Gm (S.fact 39), d43 := e43, d44 := e44, m44 := He.glo_ok KX Gm (S.fact 40), d45 := e45, m45 := He.glo_ok KX Gm (S.fact 41), d46 := e46, m46 := He.glo_ok KX Gm (S.fact 42), d47 := e47, m47 := He.glo_ok KX Gm (S.fact 43), d48 := e48, m48 := He.glo_ok KX Gm (S.fact 44), d49 := e49, m49 := He.glo_ok KX Gm (S.fact 45), d50 := e50, m50 := He.glo_ok KX Gm (S.fact 46), d51 := e51, m51 := He.glo_ok KX Gm (S.fact 47), d52 := e52, m52 := He.glo_ok KX Gm (S.fact 48), d53 := e53, m53 := He.glo_ok KX Gm (S.fact 49), d54 := e54, m54 := He.glo_ok KX Gm (S.fact 50), d55 := e55, m55 := He.glo_ok KX Gm (S.fact 51), z_abs := He.free_ok KX Gm (S.fact 52), z_all := He.free_ok KX Gm (S.fact 53), z_any := He.free_ok KX Gm (S.fact 54), z_bool := He.free_ok KX Gm (S.fact 55), z_divmod := He.free_ok KX Gm (S.fact 56), z_enumerate := He.free_ok KX Gm (S.fact 57), z_int := He.free_ok KX Gm (S.fact 58), z_isinstance := He.free_ok KX Gm (S.fact 59), z_len := He.free_ok KX Gm (S.fact 60), z_max := He.free_ok KX Gm (S.fact 61), z_min := He.free_ok KX Gm (S.fact 62), z_range := He.free_ok KX Gm (S.fact 63), z_set := He.free_ok KX Gm (S.fact 64), z_sorted := He.free_ok KX Gm (S.fact 65), z_str := He.free_ok KX Gm (S.fact 66), z_sum := He.free_ok KX Gm (S.fact 67), z_tuple := He.free_ok KX Gm (S.fact 68), c_FORMS := dk_ok KX Gm (S.fact 69) K_FORMS (all_at M 0), c_MOST_AVERAGED := He.int_ok KX Gm (S.fact 70), c_MOST_FACTS := He.int_ok KX Gm (S.fact 71), c_MOST_NUMBER := He.int_ok KX Gm (S.fact 72), c_MOST_PEOPLE := He.int_ok KX Gm (S.fact 73), c_MOST_SCORE := He.int_ok KX Gm (S.fact 74), c_PARTS := tup_ok (is := [1, 10, 100]) rfl KX Gm (S.fact 75) (all_at M 1), c_WEIGHTS := tup_ok (is := [1, 13, 169, 2197, 28561, 371293, 4826809]) rfl KX Gm (S.fact 76) (all_at M 2), m_Report := He.glo_ok KX Gm (S.fact 77), mk_Report := He.mkr_ok (S.fact 78), cls_Report := He.cls_ok (S.fact 79), na_Report_own_people := He.noat_ok (S.fact 80), na_Report_own_scale := He.noat_ok (S.fact 81), na_Report_own_facts := He.noat_ok (S.fact 82), na_Report_own_text := He.noat_ok (S.fact 83), pr_Report_people := prop_ok (all_at M 3), pr_Report_scale := prop_ok (all_at M 4), pr_Report_facts := prop_ok (all_at M 5), ins := ins_ok (T := sta K) (all_at M 6) }⟩
end W54
end

section
set_option Elab.async false
set_option autoImplicit false
set_option maxRecDepth 100000
set_option maxHeartbeats 1000000
namespace PV
theorem bndK {α β : Type} (a : α) (ρ : Env) (f : α → Env → Res β) : (Res.ok a ρ).bnd f = f a ρ := rfl
theorem y_add (i j : Int) : op2 .add (.int i) (.int j) = some (.val (.int (i + j))) := rfl
theorem y_sub (i j : Int) : op2 .sub (.int i) (.int j) = some (.val (.int (i - j))) := rfl
theorem y_gt (i j : Int) : op2 .gt (.int i) (.int j) = some (.val (.bl (decide (j < i)))) := rfl
theorem y_ge (i j : Int) : op2 .ge (.int i) (.int j) = some (.val (.bl (decide (j ≤ i)))) := rfl
theorem y_lt (i j : Int) : op2 .lt (.int i) (.int j) = some (.val (.bl (decide (i < j)))) := rfl
theorem y_le (i j : Int) : op2 .le (.int i) (.int j) = some (.val (.bl (decide (i ≤ j)))) := rfl
theorem y_mul (i j : Int) (h : -(2 ^ 64) < i ∧ i < 2 ^ 64 ∨ -(2 ^ 64) < j ∧ j < 2 ^ 64) : op2 .mul (.int i) (.int j) = some (.val (.int (i * j))) := by
  show (if _ then _ else _) = _
  rw [if_pos h]
theorem y_mod (i j : Int) (h : 0 < j) : op2 .mod (.int i) (.int j) = some (.val (.int (i % j))) := by
  show (if _ then _ else _) = _
  rw [if_pos h]
theorem y_fdiv (i j : Int) (h : j ≠ 0 ∧ j.natAbs < 1073741824) : op2 .fdiv (.int i) (.int j) = some (.val (.int (i.fdiv j))) := by
  show (if _ then _ else _) = _
  rw [if_pos h]
theorem y_divmod (i j : Int) (h : 0 < j ∧ j < 1073741824) : op2 .divmod (.int i) (.int j) = some (.val (.tup false [.int (i / j), .int (i % j)])) := by
  show (if _ then _ else _) = _
  rw [if_pos h]
theorem y_ix0 (x : Val) (xs : List Val) : op2 .ix (.lst (x :: xs)) (.int 0) = some (.val x) := rfl
theorem y_ix1 (x y : Val) (xs : List Val) : op2 .ix (.lst (x :: y :: xs)) (.int 1) = some (.val y) := by
  simp [op2, itemsOf, atV]
theorem y_int (i : Int) : op1 .int (.int i) = some (.val (.int i)) := rfl
theorem y_abs (i : Int) : op1 .abs (.int i) = some (.val (.int (if i < 0 then -i else i))) := rfl
theorem y_lens (xs : List Val) : op1 .len (.scr xs) = some (.val (.int xs.length)) := rfl
end PV
namespace W54
open PySem PV
abbrev Φ (d : Nat) : Fns := PV.run G flds defs d
theorem run1 (d : Nat) (o : Slot) (xs : List Val) : Φ (d + 1) 1 o xs = runOne D1 (PV.ex (Φ d) G flds core1) o xs := rfl
theorem run2 (d : Nat) (o : Slot) (xs : List Val) : Φ (d + 1) 2 o xs = runOne D2 (PV.ex (Φ d) G flds core2) o xs := rfl
theorem run3 (d : Nat) (o : Slot) (xs : List Val) : Φ (d + 1) 3 o xs = runOne D3 (PV.ex (Φ d) G flds core3) o xs := rfl
theorem sup_ok (d : Nat) (m o k : Int) (hk : 0 < k) (hk2 : k < 100) : ∃ r m' o', Φ (d + 1) 3 (.ol [.int m, .int o]) [.int k] = .ok (.val (.int r)) (.ol [.int m', .int o']) ∧ 0 ≤ r ∧ r < k := by
  have hk0 : k ≠ 0 := by omega
  rw [run3]
  by_cases ho : 0 < o
  · refine ⟨o % k, m, o / k, ?_, ?_, ?_⟩
    · have e : startE D3 (.ol [.int m, .int o]) [.int k] = [.ol [.int m, .int o], .v (.int k), .un] := rfl
      have e2 : okStart D3 (.ol [.int m, .int o]) [.int k] = true := rfl
      simp only [runOne, e, e2, if_true, core3, PV.ex, PV.ev, opd, bndK, List.getElem?_cons_zero, List.getElem?_cons_succ, Opd.get, lift1, y_ix0, y_ix1, y_gt, ho, decide_true, y_divmod o k ⟨hk, by omega⟩, RV.frz, setAT]
      rfl
    · exact Int.emod_nonneg _ hk0
    · exact Int.emod_lt_of_pos _ hk
  · refine ⟨((m * 48271 + 11) % 2147483399).fdiv 1013 % k, (m * 48271 + 11) % 2147483399, o, ?_, ?_, ?_⟩
    · have e : startE D3 (.ol [.int m, .int o]) [.int k] = [.ol [.int m, .int o], .v (.int k), .un] := rfl
      have e2 : okStart D3 (.ol [.int m, .int o]) [.int k] = true := rfl
      simp only [runOne, e, e2, if_true, core3, PV.ex, PV.ev, opd, bndK, List.getElem?_cons_zero, List.getElem?_cons_succ, Opd.get, lift1, y_ix0, y_ix1, y_gt, ho, decide_false, y_int, y_add, y_mul m 48271 (.inr (by decide)), y_mod _ 2147483399 (by decide), RV.frz]
      have e3 : (0 ≤ (0 : Int) ∧ (0 : Int) < (([.int m, .int o] : List Val).length : Int)) = True := by simp
      simp only [e3, if_true, bndK, Int.toNat_zero, List.set_cons_zero, List.getElem?_cons_zero, List.getElem?_cons_succ, Opd.get, lift1, y_ix0, y_fdiv _ 1013 (by decide), y_int, y_mod _ k hk]
      rfl
    · exact Int.emod_nonneg _ hk0
    · exact Int.emod_lt_of_pos _ hk
/-! ### the pail -/
theorem pail_loop (Ψ : Fns) (b : S) (hb : b = .asg (.nm 2) (.o2 .mod (.o1 .int (.o2 .add (.o2 .add (.o2 .mul (.var 2) (.int 40009)) (.o2 .mod (.o1 .int (.var 3)) (.int 1000003))) (.int 29))) (.int 2147483399))) (a t : Slot) :
    ∀ (ns : List Int) (m : Int) (u : Slot), ∃ m' u', loopE (.nm 3) (PV.ex Ψ G flds b) (ns.map Val.int) [a, t, .v (.int m), u, .un] = .ok .nx [a, t, .v (.int m'), u', .un]
  | [], m, u => ⟨m, u, rfl⟩
  | n :: ns, m, u => by
    obtain ⟨m', u', h⟩ := pail_loop Ψ b hb a t ns ((m * 40009 + n % 1000003 + 29) % 2147483399) (.v (.int n))
    refine ⟨m', u', ?_⟩
    rw [← h]
    subst hb
    have e : setT (.nm 3) (.int n) [a, t, .v (.int m), u, .un] = some [a, t, .v (.int m), .v (.int n), .un] := rfl
    rw [List.map_cons]
    simp only [loopE, e, PV.ex, PV.ev, opd, bndK, List.getElem?_cons_zero, List.getElem?_cons_succ, Opd.get, lift1, y_mul m 40009 (.inr (by decide)), y_int, y_mod _ 1000003 (by decide), y_mod _ 2147483399 (by decide), y_add, RV.frz, setT, List.set_cons_zero, List.set_cons_succ]
theorem ex_seq (Ψ : Fns) (a b : S) (ρ : PV.Env) : PV.ex Ψ G flds (.seq a b) ρ = (PV.ex Ψ G flds a ρ).bnd fun f ρ1 => (match f with
    | .nx => PV.ex Ψ G flds b ρ1
    | f => .ok f ρ1) := rfl
theorem ex_loop (Ψ : Fns) (t : Tg) (it : E) (b : S) (ρ : PV.Env) : PV.ex Ψ G flds (.loop t it b) ρ = (PV.ev Ψ G flds it ρ).bnd fun r ρ1 => (match r with
    | .fresh items => loopE t (PV.ex Ψ G flds b) items ρ1
    | _ => .stuck) := rfl
theorem cut_ints (ns : List Int) (l h : Option Int) : ∃ ks : List Int, cutL (ns.map Val.int) l h = ks.map Val.int := by
  unfold cutL
  exact ⟨(ns.drop _).take _, by rw [List.map_take, List.map_drop]⟩
theorem y_ixs (ns : List Int) (t : Int) (h0 : 0 ≤ t) (h1 : t < ns.length) : ∃ k : Int, op2 .ix (.scr (ns.map Val.int)) (.int t) = some (.val (.int k)) := by
  have h : t.toNat < ns.length := by omega
  refine ⟨ns[t.toNat], ?_⟩
  simp [op2, itemsOf, atV, h0, h]
theorem pail_ok (d : Nat) (ns : List Int) (t : Int) (ht : 0 ≤ t) : ∃ m o, Φ (d + 1) 2 .un [.scr (ns.map Val.int), .int t] = .ok (.fresh [.int m, .int o]) .un := by
  rw [run2]
  have e : startE D2 .un [.scr (ns.map Val.int), .int t] = [.v (.scr (ns.map Val.int)), .v (.int t), .un, .un, .un] := rfl
  have e2 : okStart D2 .un [.scr (ns.map Val.int), .int t] = true := rfl
  obtain ⟨ks, hks⟩ := cut_ints ns none (some 12)
  have h2 : PV.ev (Φ d) G flds (.iSeq (.slice (.var 0) .non (.int 12))) [.v (.scr (ns.map Val.int)), .v (.int t), .v (.int (70001 + 9001 * t)), .un, .un] = .ok (.fresh (ks.map Val.int)) [.v (.scr (ns.map Val.int)), .v (.int t), .v (.int (70001 + 9001 * t)), .un, .un] := by
    rw [← hks]
    rfl
  obtain ⟨m', u', h3⟩ := pail_loop (Φ d) _ rfl (.v (.scr (ns.map Val.int))) (.v (.int t)) ks (70001 + 9001 * t) .un
  have h1 : PV.ex (Φ d) G flds (.asg (.nm 2) (.o2 .add (.int 70001) (.o2 .mul (.int 9001) (.var 1)))) [.v (.scr (ns.map Val.int)), .v (.int t), .un, .un, .un] = .ok .nx [.v (.scr (ns.map Val.int)), .v (.int t), .v (.int (70001 + 9001 * t)), .un, .un] := by
    simp only [PV.ex, PV.ev, opd, bndK, List.getElem?_cons_zero, List.getElem?_cons_succ, Opd.get, lift1, y_mul 9001 t (.inl (by decide)), y_add, RV.frz, setT, List.set_cons_zero, List.set_cons_succ]
  have h4 : ∃ k : Int, PV.ex (Φ d) G flds (.asg (.nm 4) (.ite (.o2 .lt (.var 1) (.o1 .len (.var 0))) (.o1 .int (.o2 .ix (.var 0) (.var 1))) (.int 0))) [.v (.scr (ns.map Val.int)), .v (.int t), .v (.int m'), u', .un] = .ok .nx [.v (.scr (ns.map Val.int)), .v (.int t), .v (.int m'), u', .v (.int k)] := by
    by_cases hl : t < ns.length
    · obtain ⟨k, hk⟩ := y_ixs ns t ht hl
      refine ⟨k, ?_⟩
      simp only [PV.ex, PV.ev, opd, bndK, List.getElem?_cons_zero, List.getElem?_cons_succ, Opd.get, lift1, y_lens, List.length_map, y_lt, hl, decide_true, hk, y_int, RV.frz, setT, List.set_cons_zero, List.set_cons_succ]
    · refine ⟨0, ?_⟩
      simp only [PV.ex, PV.ev, opd, bndK, List.getElem?_cons_zero, List.getElem?_cons_succ, Opd.get, lift1, y_lens, List.length_map, y_lt, hl, decide_false, y_int, RV.frz, setT, List.set_cons_zero, List.set_cons_succ]
  obtain ⟨k, h4⟩ := h4
  have h5 : ∃ o : Int, PV.ex (Φ d) G flds (.retO (.lst (.cons (.var 2) (.cons (.ite (.or (.o2 .lt (.var 4) (.int 0)) (.o2 .ge (.var 4) (.o2 .pow (.int 10) (.int 12)))) (.o1 .abs (.var 4)) (.int 0)) .nil)))) [.v (.scr (ns.map Val.int)), .v (.int t), .v (.int m'), u', .v (.int k)]
      = .ok (.ret (.fresh [.int m', .int o])) [.v (.scr (ns.map Val.int)), .v (.int t), .v (.int m'), u', .v (.int k)] := by
    have hp : op2 .pow (.int 10) (.int 12) = some (.val (.int (10 ^ 12))) := rfl
    by_cases c1 : k < 0
    · refine ⟨-k, ?_⟩
      simp only [PV.ex, PV.ev, opd, bndK, List.getElem?_cons_zero, List.getElem?_cons_succ, Opd.get, lift1, y_lt, y_ge, y_abs, c1, decide_true, hp, RV.frz, if_true, if_false]
      rfl
    · by_cases c2 : (10 : Int) ^ 12 ≤ k
      · refine ⟨k, ?_⟩
        simp only [PV.ex, PV.ev, opd, bndK, List.getElem?_cons_zero, List.getElem?_cons_succ, Opd.get, lift1, y_lt, y_ge, y_abs, c1, c2, decide_true, decide_false, hp, RV.frz, if_true, if_false]
        rfl
      · refine ⟨0, ?_⟩
        simp only [PV.ex, PV.ev, opd, bndK, List.getElem?_cons_zero, List.getElem?_cons_succ, Opd.get, lift1, y_lt, y_ge, y_abs, c1, c2, decide_false, hp, RV.frz, if_true, if_false]
        rfl
  obtain ⟨o, h5⟩ := h5
  refine ⟨m', o, ?_⟩
  simp only [runOne, e, e2, if_true, core2]
  rw [ex_seq, h1, bndK]
  dsimp only
  rw [ex_seq, ex_loop, h2, bndK]
  dsimp only
  rw [h3, bndK]
  dsimp only
  rw [ex_seq, h4, bndK]
  dsimp only
  rw [h5]
  rfl
def isT : FR → Bool
  | .ok (.val (.bl true)) .un => true
  | _ => false
theorem isT_ok {r : FR} (h : isT r = true) : r = .ok (.val (.bl true)) .un := by
  unfold isT at h
  split at h
  · rfl
  · cases h
theorem m0 : isT (Φ 14 4 .un [.int 0]) = true := by decide +kernel
theorem m1 : isT (Φ 14 4 .un [.int 1]) = true := by decide +kernel
theorem m2 : isT (Φ 14 4 .un [.int (-1)]) = true := by decide +kernel
theorem r0 : isT (Φ 14 5 .un [.int 0]) = true := by decide +kernel
theorem r1 : isT (Φ 14 5 .un [.int 1]) = true := by decide +kernel
theorem r2 : isT (Φ 14 5 .un [.int (-1)]) = true := by decide +kernel
def P1 : S := match core1 with | .seq a _ => a | _ => .nop
def I1 : S := match core1 with | .seq _ (.seq a _) => a | _ => .nop
def R1 : S := match core1 with | .seq _ (.seq _ a) => a | _ => .nop
theorem core1_eq : core1 = .seq P1 (.seq I1 R1) := rfl
theorem P1_eq : P1 = (.par 1 false (.o2 .sub (.ocall 3 0 (.cons (.int 3) .nil)) (.int 1)) 2 false (.o2 .add (.int 1) (.ocall 3 0 (.cons (.int 8) .nil)))) := rfl
theorem I1_eq : I1 = (.iff (.or (.not (.call 4 (.cons (.var 1) .nil))) (.not (.call 5 (.cons (.var 1) .nil)))) (.retO (.bl false)) .nop) := rfl
theorem p1_ok (d : Nat) (m o : Int) : ∃ (r q m' o' : Int), PV.ex (Φ (d + 1)) G flds P1 [.ol [.int m, .int o], .un, .un, .un, .un, .un] = .ok .nx [.ol [.int m', .int o'], .v (.int (r - 1)), .v (.int (1 + q)), .un, .un, .un] ∧ 0 ≤ r ∧ r < 3 ∧ 0 ≤ q ∧ q < 8 := by
  obtain ⟨r, m1, o1, h1, a1, b1⟩ := sup_ok d m o 3 (by decide) (by decide)
  obtain ⟨q, m2, o2, h2, a2, b2⟩ := sup_ok d m1 o1 8 (by decide) (by decide)
  refine ⟨r, q, m2, o2, ?_, a1, b1, a2, b2⟩
  rw [P1_eq]
  simp only [PV.ex, PV.ev, opd, bndK, List.getElem?_cons_zero, List.getElem?_cons_succ, Opd.get, lift1, y_sub, y_add, RV.frz, List.set_cons_zero, List.set_cons_succ, h1, h2, ofFR, slotOf]
def isTF : Res Fl → Bool
  | .ok (.ret (.val (.bl true))) _ => true
  | _ => false
theorem isTF_ok {r : Res Fl} (h : isTF r = true) : ∃ ρ, r = .ok (.ret (.val (.bl true))) ρ := by
  unfold isTF at h
  split at h
  · exact ⟨_, rfl⟩
  · cases h
theorem i1_ok (a s2 : Slot) (i : Int) (h4 : Φ 14 4 .un [.int i] = .ok (.val (.bl true)) .un) (h5 : Φ 14 5 .un [.int i] = .ok (.val (.bl true)) .un) :
    PV.ex (Φ 14) G flds I1 [a, .v (.int i), s2, .un, .un, .un] = .ok .nx [a, .v (.int i), s2, .un, .un, .un] := by
  rw [I1_eq]
  simp only [PV.ex, PV.ev, bndK, List.getElem?_cons_zero, List.getElem?_cons_succ, RV.frz, h4, h5, ofFR]
  rfl
theorem q0 (a b : Slot) : isTF (PV.ex (Φ 14) G flds R1 [a, b, .v (.int 1), .un, .un, .un]) = true := by kernel_rfl
theorem q1 (a b : Slot) : isTF (PV.ex (Φ 14) G flds R1 [a, b, .v (.int 2), .un, .un, .un]) = true := by kernel_rfl
theorem q2 (a b : Slot) : isTF (PV.ex (Φ 14) G flds R1 [a, b, .v (.int 3), .un, .un, .un]) = true := by kernel_rfl
theorem q3 (a b : Slot) : isTF (PV.ex (Φ 14) G flds R1 [a, b, .v (.int 4), .un, .un, .un]) = true := by kernel_rfl
theorem q4 (a b : Slot) : isTF (PV.ex (Φ 14) G flds R1 [a, b, .v (.int 5), .un, .un, .un]) = true := by kernel_rfl
theorem q5 (a b : Slot) : isTF (PV.ex (Φ 14) G flds R1 [a, b, .v (.int 6), .un, .un, .un]) = true := by kernel_rfl
theorem q6 (a b : Slot) : isTF (PV.ex (Φ 14) G flds R1 [a, b, .v (.int 7), .un, .un, .un]) = true := by kernel_rfl
theorem q7 (a b : Slot) : isTF (PV.ex (Φ 14) G flds R1 [a, b, .v (.int 8), .un, .un, .un]) = true := by kernel_rfl
theorem right_ok (m o : Int) : ∃ s, Φ 15 1 (.ol [.int m, .int o]) [] = .ok (.val (.bl true)) s := by
  obtain ⟨r, q, m', o', h, a1, a2, a3, a4⟩ := p1_ok 13 m o
  have e : startE D1 (.ol [.int m, .int o]) [] = [.ol [.int m, .int o], .un, .un, .un, .un, .un] := rfl
  have e2 : okStart D1 (.ol [.int m, .int o]) [] = true := rfl
  have hi : PV.ex (Φ 14) G flds I1 [.ol [.int m', .int o'], .v (.int (r - 1)), .v (.int (1 + q)), .un, .un, .un] = .ok .nx [.ol [.int m', .int o'], .v (.int (r - 1)), .v (.int (1 + q)), .un, .un, .un] := by
    obtain h | h | h : r = 0 ∨ r = 1 ∨ r = 2 := by omega
    · subst h; exact i1_ok _ _ _ (isT_ok m2) (isT_ok r2)
    · subst h; exact i1_ok _ _ _ (isT_ok m0) (isT_ok r0)
    · subst h; exact i1_ok _ _ _ (isT_ok m1) (isT_ok r1)
  have hr : ∃ ρ, PV.ex (Φ 14) G flds R1 [.ol [.int m', .int o'], .v (.int (r - 1)), .v (.int (1 + q)), .un, .un, .un] = .ok (.ret (.val (.bl true))) ρ := by
    obtain h | h | h | h | h | h | h | h : q = 0 ∨ q = 1 ∨ q = 2 ∨ q = 3 ∨ q = 4 ∨ q = 5 ∨ q = 6 ∨ q = 7 := by omega
    · subst h; exact isTF_ok (q0 _ _)
    · subst h; exact isTF_ok (q1 _ _)
    · subst h; exact isTF_ok (q2 _ _)
    · subst h; exact isTF_ok (q3 _ _)
    · subst h; exact isTF_ok (q4 _ _)
    · subst h; exact isTF_ok (q5 _ _)
    · subst h; exact isTF_ok (q6 _ _)
    · subst h; exact isTF_ok (q7 _ _)
  obtain ⟨ρ, hr⟩ := hr
  rw [run1]
  simp only [runOne, e, e2, if_true, core1_eq]
  rw [ex_seq, h, bndK]
  dsimp only
  rw [ex_seq, hi, bndK]
  dsimp only
  rw [hr]
  exact ⟨_, rfl⟩
end W54
end

section
set_option Elab.async false
set_option linter.all false
set_option autoImplicit false
set_option maxRecDepth 100000
set_option maxHeartbeats 1000000
namespace PV
theorem turns_law (body : PV.Env → Res (List Val)) (a : Slot) (hb : ∀ t : Int, 0 ≤ t → body [a, .v (.int t)] = .ok [.bl true] [a, .v (.int t)]) :
    ∀ (ts : List Int) (u : Slot), (∀ t ∈ ts, 0 ≤ t) → ∃ u', turns [1] (.nm 1) body (ts.map Val.int) [a, u] = .ok (ts.map fun _ => Val.bl true) [a, u']
  | [], u, _ => ⟨u, rfl⟩
  | t :: ts, u, h => by
    obtain ⟨u', e⟩ := turns_law body a hb ts (.v (.int t)) fun t h' => h t (List.mem_cons_of_mem _ h')
    refine ⟨u', ?_⟩
    have e1 : setT (.nm 1) (.int t) (wipeE [a, u] [1]) = some [a, .v (.int t)] := rfl
    rw [List.map_cons, turns, e1]
    dsimp only
    rw [hb t (h t List.mem_cons_self), bndK, e, bndK]
    rfl
theorem bools_true : ∀ ts : List Int, boolsOf (ts.map fun _ => Val.bl true) = some (ts.map fun _ => true)
  | [] => rfl
  | t :: ts => by rw [List.map_cons, boolsOf, bools_true ts]; rfl
theorem y_all (ts : List Int) : op1 .all (.lst (ts.map fun _ => Val.bl true)) = some (.val (.bl true)) := by
  show (match boolsOf _ with | some bs => some (RV.val (.bl (bs.all id))) | none => none) = _
  rw [bools_true]
  simp
theorem range_ints (n : Nat) : rangeV 0 n = ((List.range n).map fun i : Nat => (i : Int)).map Val.int := by
  unfold rangeV
  rw [List.map_map]
  exact List.map_congr_left fun i _ => by show Val.int (0 + (i : Int)) = Val.int i; rw [Int.zero_add]
end PV
namespace W54
open PySem PV
theorem y_max (i j : Int) : op2 .max (.int i) (.int j) = some (.val (.int (if j > i then j else i))) := rfl
theorem y_min (i j : Int) : op2 .min (.int i) (.int j) = some (.val (.int (if j < i then j else i))) := rfl
theorem law_ok (ns : List Int) (hl : ns.length ≤ 63) : Φ 16 0 .un [.scr (ns.map Val.int)] = .ok (.val (.bl true)) .un := by
  have e : startE D0 .un [.scr (ns.map Val.int)] = [.v (.scr (ns.map Val.int)), .un] := rfl
  have e2 : okStart D0 .un [.scr (ns.map Val.int)] = true := rfl
  show runOne D0 (PV.ex (Φ 15) G flds core0) .un _ = _
  simp only [runOne, e, e2, if_true]
  obtain ⟨n, hn, hn2⟩ : ∃ n : Int, PV.ev (Φ 15) G flds (.o2 .max (.int 2) (.o2 .min (.o1 .len (.var 0)) (.int 4))) [.v (.scr (ns.map Val.int)), .un] = .ok (.val (.int n)) [.v (.scr (ns.map Val.int)), .un] ∧ 0 ≤ n ∧ n ≤ 4 := by
    refine ⟨if (if (4 : Int) < ns.length then (4 : Int) else ns.length) > 2 then (if (4 : Int) < ns.length then (4 : Int) else ns.length) else 2, ?_, ?_⟩
    · simp only [PV.ev, opd, bndK, List.getElem?_cons_zero, List.getElem?_cons_succ, Opd.get, lift1, y_lens, List.length_map, y_max, y_min, RV.frz]
    · constructor <;> (repeat' split) <;> omega
  have hit : PV.ev (Φ 15) G flds (.iRng1 (.o2 .max (.int 2) (.o2 .min (.o1 .len (.var 0)) (.int 4)))) [.v (.scr (ns.map Val.int)), .un] = .ok (.fresh (((List.range n.toNat).map fun i : Nat => (i : Int)).map Val.int)) [.v (.scr (ns.map Val.int)), .un] := by
    rw [PV.ev, hn, bndK, ← range_ints]
    show (if _ then _ else _) = _
    rw [if_pos (by unfold listLim; omega)]
  obtain ⟨u', ht⟩ := turns_law (fun ρ2 => PV.isT (PV.ev (Φ 15) G flds (.bl true) ρ2) (fun ρ3 => (PV.ev (Φ 15) G flds (.fcall 1 (.call 2 (.cons (.var 0) (.cons (.var 1) .nil))) .nil) ρ3).bnd fun r ρ4 => .ok [r.frz] ρ4) (fun ρ3 => .ok [] ρ3)) (.v (.scr (ns.map Val.int)))
    (fun t h0 => by
      obtain ⟨m, o, hp⟩ := pail_ok 14 ns t h0
      obtain ⟨s, hr⟩ := right_ok m o
      simp only [PV.isT, PV.ev, bndK, List.getElem?_cons_zero, List.getElem?_cons_succ, RV.frz, hp, ofFR, hr])
    ((List.range n.toNat).map fun i : Nat => (i : Int)) .un (fun t h => by
      obtain ⟨i, _, e⟩ := List.mem_map.mp h
      omega)
  have hc : PV.ev (Φ 15) G flds (.comp1 [1] (.nm 1) (.iRng1 (.o2 .max (.int 2) (.o2 .min (.o1 .len (.var 0)) (.int 4)))) (.bl true) (.fcall 1 (.call 2 (.cons (.var 0) (.cons (.var 1) .nil))) .nil)) [.v (.scr (ns.map Val.int)), .un]
      = .ok (.fresh (((List.range n.toNat).map fun i : Nat => (i : Int)).map fun _ => Val.bl true)) [.v (.scr (ns.map Val.int)), .un] := by
    rw [PV.ev, hit, bndK]
    dsimp only [outE]
    rw [ht]
    simp only [noX, bndK]
    rw [if_pos (by unfold listLim; rw [List.length_map, List.length_map, List.length_range]; omega)]
    rfl
  have hx : PV.ex (Φ 15) G flds core0 [.v (.scr (ns.map Val.int)), .un] = .ok (.ret (.val (.bl true))) [.v (.scr (ns.map Val.int)), .un] := by
    rw [core0, PV.ex, PV.ev, opd, hc]
    · simp only [bndK, Opd.get, RV.frz, y_all, lift1]
    · intro i h; cases h
  rw [hx]
  rfl
end W54
end

section
open PySem PySem.W PyProof.Rows
set_option Elab.async false

set_option maxRecDepth 100000 in
set_option maxHeartbeats 0 in
theorem PySem.Challenge.cw_toldcounts_k54_whole_known_reports_by_ha_holds : PySem.Challenge.rw_toldcounts_k54_whole_known_reports_by_ha.Holds := by
  w_on; o_law; k_head; (case hw => w_witness2)
  k_fill
  refine L2.walk_of (l := PySem.Challenge.rw_toldcounts_k54_whole_known_reports_by_ha) (n := 63) (k := 100) (x := "_law_script") (CX := fun w => L2.CX (PySem.Challenge.rw_toldcounts_k54_whole_known_reports_by_ha).prog w) (sp := fun w => PV.lawSp _) rfl (by decide) rfl ⟨rfl, by decide, by decide⟩ (fun w h Y => by first | exact Y | exact Y.1) ?F (fun _ _ a ns hl _ hS => ⟨a, ns, rfl, hS, hl, fun _ => rfl⟩) ?X
  case X =>
    intro w H s e s' h
    exact PV.cx_no h
  case F =>
    intro w mg fa h KX G hmg
    obtain ⟨X⟩ := W54.fx_of (w := w) KX G (show He5.obsA _ _ _ = He5.valA _ from by kernel_rfl) (by kernel_rfl) (by kernel_rfl)
    have hfa := Value.ref.inj (Option.some.inj (hmg.symm.trans X.m0))
    subst hfa
    exact ⟨X.d0.fd, fun s u => X.d0.F.bindsA (ps := ["_law_script"]) (fun _ _ _ _ _ _ us hl => match us, hl with | [_], _ => by kernel_rfl) s [u] rfl, fun base _ _ => ((W54.okAll X 16).o0.mono (by decide)).imp (PV.lawSp_spF (T := W54.sta _) rfl W54.law_ok)⟩
end

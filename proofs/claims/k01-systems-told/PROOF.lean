import PyProof.Rows.All
import Wide.All
import OpenK.AllK
import Wide.FinOn
import HandS.CallSlots
import HandS.Codes
import HandS.Flow
import HandS.ForExc
import HandS.ForMost
import HandS.HeadHook3
import HandS.More
import HandS.RaiseMore
import HandS.Small
import HandS.Strs
import HandS.Style
import HandS.TryMany
import HandS.TupAny
import HandS.TupMul
import HandS.WordsExc
import KE.DataAny
import KE.DataEq
import KE.DataIsa
import KE.DataMinMax
import KE.GoesEnum
import KE.KRevSl
import KE.LtData
import KE.SortData
import PySem.Challenge.RW_owntold_k01_systems_told
set_option linter.all false
section
set_option linter.all false
set_option maxRecDepth 100000
namespace Rf
open PySem

abbrev D := PyData

/-- the keys of plain dicts: ints, texts -/
abbrev DK := Sum Int Str
def kD : DK → D
  | .inl i => .int i
  | .inr x => .str x
def dK? : D → Option DK
  | .int i => some (.inl i)
  | .str x => some (.inr x)
  | _ => none
def kvD (kvs : List (DK × D)) : List (D × D) := kvs.map fun p => (kD p.1, p.2)
def vGet (kvs : List (DK × D)) (k : DK) : Option D := (kvs.find? fun kv => decide (kv.1 = k)).map (·.2)
def vPut (kvs : List (DK × D)) (k : DK) (v : D) : List (DK × D) := if kvs.any fun kv => decide (kv.1 = k) then kvs.map fun kv => if kv.1 = k then (kv.1, v) else kv else kvs ++ [(k, v)]
/-- what a mutable object holds -/
inductive Cell where
  | lst (xs : List D)
  | dK (kvs : List (DK × D))

/-- what a slot holds: data, or a mutable object (own: made in this def; else it is the caller's); pin: one fixed thing -/
inductive X where
  | d (x : D)
  | cell (own : Bool) (c : Cell)
  | pin

abbrev Sl := List (Option X)

inductive R (α : Type) where
  | ok (a : α) (sl : Sl)
  | exc (c : Nat) (sl : Sl)
  | stuck

def R.bind {α β : Type} (r : R α) (f : α → Sl → R β) : R β := match r with
  | .ok a sl => f a sl
  | .exc c sl => .exc c sl
  | .stuck => .stuck
@[simp] theorem R.bind_ok {α β : Type} (a : α) (sl : Sl) (f : α → Sl → R β) : (R.ok a sl).bind f = f a sl := rfl
@[simp] theorem R.bind_exc {α β : Type} (c : Nat) (sl : Sl) (f : α → Sl → R β) : (R.exc c sl).bind f = .exc c sl := rfl
@[simp] theorem R.bind_stuck {α β : Type} (f : α → Sl → R β) : (R.stuck).bind f = .stuck := rfl

def R.of {α : Type} (o : Option α) (sl : Sl) : R α := match o with
  | some a => .ok a sl
  | none => .stuck
@[simp] theorem R.of_some {α : Type} (a : α) (sl : Sl) : R.of (some a) sl = .ok a sl := rfl
@[simp] theorem R.of_none {α : Type} (sl : Sl) : R.of (none : Option α) sl = .stuck := rfl

/-- a call's result -/
inductive CR where
  | ok (d : D) (outs : List Cell)
  | exc (c : Nat)
  | stuck

inductive O2 where
  | add | sub | mul | fdiv | mod | eq | ne | lt | le | gt | ge | is_ | isnt | in_ | nin
  deriving DecidableEq
inductive Ty where
  | int | str | bool | tuple | list | dict
  deriving DecidableEq
inductive Bi where
  | len | sum | min | max | max0 | abs | all | any | tuple | list | sorted | int | str | lenset | sortset | max2 | isi (t : Ty)
  deriving DecidableEq
inductive Me where
  | split | join | count | index | get
  deriving DecidableEq

def depthLine : Nat := 100
def mulOk (i j : Int) : Bool := (decide (-(2 ^ 64) < i) && decide (i < 2 ^ 64)) || (decide (-(2 ^ 64) < j) && decide (j < 2 ^ 64))

def sAdd : D → D → Option D
  | .int i, .int j => some (.int (i + j))
  | .str x, .str y => if x.length + y.length ≤ sizeLine then some (.str (x ++ y)) else none
  | .list xs, .list ys => if xs.length + ys.length ≤ sizeLine then some (.list (xs ++ ys)) else none
  | .tuple xs, .tuple ys => if xs.length + ys.length ≤ sizeLine then some (.tuple (xs ++ ys)) else none
  | _, _ => none
def sSub : D → D → Option D
  | .int i, .int j => some (.int (i - j))
  | _, _ => none
def rep {α : Type} (k : Int) (xs : List α) : List α := (List.replicate k.toNat xs).flatten
def sMul : D → D → Option D
  | .int i, .int j => if mulOk i j then some (.int (i * j)) else none
  | .list xs, .int k => if decide (-(2 ^ 63) ≤ k) && decide (k < 2 ^ 63) && decide (xs.length * k.toNat ≤ sizeLine) then some (.list (rep k xs)) else none
  | .tuple xs, .int k => if decide (k = 1) then some (.tuple xs) else if !xs.isEmpty && decide (2 ≤ k) && decide (k ≤ 1000) && decide (xs.length ≤ 1000) then some (.tuple (rep k xs)) else none
  | _, _ => none
def sFdiv : D → D → Option D
  | .int i, .int j => if decide (0 < j) && decide (j < 1073741824) then some (.int (i / j)) else none
  | _, _ => none
def sMod : D → D → Option D
  | .int i, .int j => if decide (0 < j) then some (.int (i % j)) else none
  | _, _ => none
def sEqB (a b : D) : Option Bool := if a.plain && b.plain && decide (min a.depth b.depth ≤ depthLine) then some (PyData.eqv a b) else none
def sLtB : D → D → Option Bool
  | .int i, .int j => some (decide (i < j))
  | .str x, .str y => some (decide (x.cps.toList < y.cps.toList))
  | _, _ => none
def sLeB : D → D → Option Bool
  | .int i, .int j => some (decide (i ≤ j))
  | .str x, .str y => some (decide (x.cps.toList ≤ y.cps.toList))
  | _, _ => none
def isNone : D → Bool
  | .none => true
  | _ => false
/-- one text within another -/
def subIn (x y : Str) : Bool := !(Builtin.Str.occurrences y x 0 y.length 1).isEmpty
/-- a dict's data by its keys -/
def dKs : List (D × D) → Option (List (DK × D))
  | [] => some []
  | p :: r => (dK? p.1).bind fun k => (dKs r).map ((k, p.2) :: ·)
def sInB : D → D → Option Bool
  | a, .list xs => if a.plain && PyData.plainAll xs && decide (min (PyData.depthAll xs) a.depth ≤ depthLine) then some (xs.any fun y => PyData.eqv y a) else none
  | a, .tuple xs => if a.plain && PyData.plainAll xs && decide (min (PyData.depthAll xs) a.depth ≤ depthLine) then some (xs.any fun y => PyData.eqv y a) else none
  | .str x, .str y => some (subIn x y)
  | a, .dict kvs => (dK? a).bind fun k => (dKs kvs).map fun kvs => (vGet kvs k).isSome
  | _, _ => none
def oB : Option Bool → Option D
  | some b => some (.bool b)
  | none => none
@[simp] theorem oB_some (b : Bool) : oB (some b) = some (.bool b) := rfl
@[simp] theorem oB_none : oB none = none := rfl
def sem2 : O2 → D → D → Option D
  | .add, a, b => sAdd a b
  | .sub, a, b => sSub a b
  | .mul, a, b => sMul a b
  | .fdiv, a, b => sFdiv a b
  | .mod, a, b => sMod a b
  | .eq, a, b => oB (sEqB a b)
  | .ne, a, b => oB ((sEqB a b).map not)
  | .lt, a, b => oB (sLtB a b)
  | .le, a, b => oB (sLeB a b)
  | .gt, a, b => oB (sLtB b a)
  | .ge, a, b => oB (sLeB b a)
  | .is_, a, b => if isNone b then some (.bool (isNone a)) else none
  | .isnt, a, b => if isNone b then some (.bool (!isNone a)) else none
  | .in_, a, b => oB (sInB a b)
  | .nin, a, b => oB ((sInB a b).map not)

def isTy : Ty → D → Bool
  | .int, .int _ => true
  | .int, .bool _ => true
  | .bool, .bool _ => true
  | .str, .str _ => true
  | .tuple, .tuple _ => true
  | .list, .list _ => true
  | .dict, .dict _ => true
  | _, _ => false

def truth : D → Bool
  | .none => false
  | .bool b => b
  | .int i => i != 0
  | .str x => x.length != 0
  | .list xs => !xs.isEmpty
  | .tuple xs => !xs.isEmpty
  | .dict kvs => !kvs.isEmpty

def signs (x : Str) : List D := x.cps.toList.map fun c => .str ⟨#[c]⟩

/-- what is walked -/
def items : D → Option (List D)
  | .list xs => some xs
  | .tuple xs => some xs
  | .str x => some (signs x)
  | .dict kvs => some (kvs.map (·.1))
  | _ => none
def intsOf : List D → Option (List Int)
  | [] => some []
  | .int i :: r => (intsOf r).map (i :: ·)
  | _ :: _ => none
def allAlikeB (xs : List D) : Bool := xs.all fun x => xs.all fun y => PySem.W.alike x y
def boolsOf : List D → Option (List Bool)
  | [] => some []
  | .bool b :: r => (boolsOf r).map (b :: ·)
  | _ :: _ => none
def strsOf : List D → Option (List Str)
  | [] => some []
  | .str b :: r => (strsOf r).map (b :: ·)
  | _ :: _ => none

def bLen : List D → Option D
  | [.list xs] => some (.int xs.length)
  | [.tuple xs] => some (.int xs.length)
  | [.str x] => some (.int x.length)
  | [.dict kvs] => some (.int kvs.length)
  | _ => none
def bAbs : List D → Option D
  | [.int i] => some (.int (if i < 0 then -i else i))
  | _ => none
def bSum : List D → Option D
  | [.list xs] => (intsOf xs).map fun ns => .int ns.sum
  | _ => none
def bTuple : List D → Option D
  | [.list xs] => some (.tuple xs)
  | [.tuple xs] => some (.tuple xs)
  | _ => none
def bList : List D → Option D
  | [.list xs] => some (.list xs)
  | [.tuple xs] => some (.list xs)
  | _ => none
def bAll : List D → Option D
  | [.list xs] => (boolsOf xs).map fun bs => .bool (bs.all id)
  | _ => none
def bAny : List D → Option D
  | [.list xs] => (boolsOf xs).map fun bs => .bool (bs.any id)
  | _ => none
def bMax2 : List D → Option D
  | [.int i, .int j] => some (.int (if j > i then j else i))
  | _ => none
def bInt : List D → Option D
  | [.int i] => some (.int i)
  | [.bool b] => some (.int (if b then 1 else 0))
  | _ => none
def bIsi (t : Ty) : List D → Option D
  | [.dict _] => none
  | [d] => some (.bool (isTy t d))
  | _ => none
def alikeB (xs : List D) : Bool := allAlikeB xs && xs.all (fun x => !isNone x) && decide (PyData.depthAll xs ≤ depthLine)
def bMin : List D → Option D
  | [.list (x :: xs)] => if alikeB (x :: xs) then some (PySem.W.minD x xs) else none
  | [.tuple (x :: xs)] => if alikeB (x :: xs) then some (PySem.W.minD x xs) else none
  | _ => none
def bMax : List D → Option D
  | [.list (x :: xs)] => if alikeB (x :: xs) then some (PySem.W.maxD x xs) else none
  | [.tuple (x :: xs)] => if alikeB (x :: xs) then some (PySem.W.maxD x xs) else none
  | _ => none
/-- how many different ones there are in a list -/
def nDiff {κ : Type} [DecidableEq κ] : List κ → Nat
  | [] => 0
  | x :: r => if x ∈ r then nDiff r else nDiff r + 1
def bLenset : List D → Option D
  | [.list xs] => (strsOf xs).bind fun ss => if ss.length < 4000 then some (.int (nDiff ss)) else none
  | [.tuple xs] => (strsOf xs).bind fun ss => if ss.length < 4000 then some (.int (nDiff ss)) else none
  | _ => none
def bStr : List D → Option D
  | [.int n] => if n.natAbs.log2 < 1920 ∧ (Str.ofString (toString n)).length ≤ sizeLine then some (.str (Str.ofString (toString n))) else none
  | [.str x] => some (.str x)
  | _ => none
def semB : Bi → List D → Option D
  | .len, xs => bLen xs
  | .abs, xs => bAbs xs
  | .sum, xs => bSum xs
  | .min, xs => bMin xs
  | .max, xs => bMax xs
  | .tuple, xs => bTuple xs
  | .list, xs => bList xs
  | .all, xs => bAll xs
  | .any, xs => bAny xs
  | .max2, xs => bMax2 xs
  | .int, xs => bInt xs
  | .isi t, xs => bIsi t xs
  | .lenset, xs => bLenset xs
  | .str, xs => bStr xs
  | _, _ => none

def semM : Me → List D → Option D
  | _, _ => none

/-- a place in a sequence -/
def place (n : Nat) (i : Int) : Option Nat := if 0 ≤ i then (if i < n then some i.toNat else none) else if -(n : Int) ≤ i then some (i + n).toNat else none
def atI {α : Type} (xs : List α) (i : Int) : Option α := (place xs.length i).bind fun j => xs[j]?
def sIdx : D → D → Option D
  | .list xs, .int i => atI xs i
  | .tuple xs, .int i => atI xs i
  | .str x, .int i => (atI x.cps.toList i).map fun c => .str ⟨#[c]⟩
  | .dict kvs, k => (dK? k).bind fun k => (dKs kvs).bind fun kvs => vGet kvs k
  | _, _ => none
/-- a slice's end -/
def clip (n d : Nat) : Option Int → Nat
  | none => d
  | some v => if v < 0 then (v + n).toNat else min v.toNat n
def cut {α : Type} (xs : List α) (lo hi : Option Int) : List α := (xs.drop (clip xs.length 0 lo)).take (clip xs.length xs.length hi - clip xs.length 0 lo)
def sCut : D → Option Int → Option Int → Option D
  | .list xs, lo, hi => some (.list (cut xs lo hi))
  | .tuple xs, lo, hi => some (.tuple (cut xs lo hi))
  | .str x, lo, hi => some (.str ⟨(cut x.cps.toList lo hi).toArray⟩)
  | _, _, _ => none
def sRev : D → Option D
  | .list xs => some (.list xs.reverse)
  | .tuple xs => some (.tuple xs.reverse)
  | _ => none

inductive T where
  | nm (i : Nat)
  | tp (is : List Nat)
  | tp2 (i : Nat) (is : List Nat)

mutual
inductive L where
  | var (i : Nat) | frz (i : Nat) | peek (i : Nat)
  | const (c : D) | glob (g : Nat)
  | tup (es : Ls) | lst (es : Ls)
  | op (o : O2) (a b : Z) | neg (a : L)
  | chain (o p : O2) (a b c : L)
  | and_ (a b : L) | or_ (a b : L) | not_ (a : L)
  | ite (t a b : L)
  | call (f : Nat) (as : As)
  | bi (b : Bi) (as : As)
  | meth (m : Me) (as : As)
  | idx (a i : Z) | slice (a : Z) (lo hi : Ol) | rev (a : Z)
  | comp (elt : L) (t : T) (it : I) (cond : Ol) (own : List Nat)
  | pop (i : Nat) | popAt (i : Nat) (a : L)
  | gin (neg : Bool) (a : L) | gget (a : L)
  | chain3 (o p q : O2) (a b c d : L)
  | dict (kvs : List (DK × D)) | rng (it : I) | dget (i : Nat) (k d : L)
  | comp2 (elt : L) (t : T) (it : I) (t1 : T) (it1 : I) (cond : Ol) (own own1 : List Nat)
  | scomp2 (elt : L) (t : T) (it : I) (t1 : T) (it1 : I) (cond : Ol) (own own1 : List Nat)
  | dcomp (k v : L) (t : T) (it : I) (cond : Ol) (own : List Nat)
inductive Ol where
  | none | some (a : L)
inductive Ls where
  | nil | cons (a : L) (r : Ls)
inductive Z where
  | val (a : L) | ref (i : Nat) | new
inductive As where
  | nil | cons (z : Z) (r : As)
inductive I where
  | seq (a : L) | range1 (a : L) | range2 (a b : L) | zip (a b : L) | enum (a : L) | enumz (a b : L) | items (a : L) | values (a : L)
end

mutual
inductive S where
  | asg (t : T) (e : L) | asgC (i : Nat) (e : L)
  | par (ts : List (Nat × Bool)) (es : Ls)
  | setI (i : Nat) (k v : L) | setD (i : Nat) (k v : L) | setS (i : Nat) (lo hi : L) (v : L)
  | aug (i : Nat) (e : L)
  | app (i : Nat) (e : L) | ext (i : Nat) (e : L) | ins (i : Nat) (a e : L) | upd (i : Nat) (e : L)
  | rows (i w : Nat) (n : L) (t : T) (it : I) (k e : L) (v : Nat) (body : Ss)
  | expr (e : L)
  | ite (c : L) (a b : Ss) | for_ (t : T) (it : I) (body : Ss) | while_ (c : L) (body : Ss)
  | ret (e : L) | retN | raise (c : Nat) | try_ (body : Ss) (hs : Hs) | brk | pass
inductive Ss where
  | nil | cons (s : S) (r : Ss)
inductive Hs where
  | nil | cons (c : Nat) (i : Nat) (e : L) (r : Hs)
end

/-- a def -/
structure Fn where
  ins : List Bool     -- for each parameter whether it is a mutable object
  names : List Str
  body : Ss

def getD (sl : Sl) (i : Nat) : Option D := match sl[i]? with
  | some (some (.d x)) => some x
  | _ => none
def cellD : Cell → Option D
  | .lst xs => some (.list xs)
  | .dK _ => none
def peekD (sl : Sl) (i : Nat) : Option D := match sl[i]? with
  | some (some (.d x)) => some x
  | some (some (.cell _ (.lst xs))) => some (.list xs)
  | some (some (.cell _ (.dK kvs))) => some (.dict (kvD kvs))
  | _ => none
def frzD (sl : Sl) (i : Nat) : R D := match sl[i]? with
  | some (some (.d x)) => .ok x sl
  | some (some (.cell true c)) => match cellD c with
    | some x => .ok x (sl.set i (some (.d x)))
    | none => .stuck
  | _ => .stuck
def isData (sl : Sl) (i : Nat) : Bool := match sl[i]? with
  | some (some (.d _)) => true
  | some (some _) => false
  | _ => true

def wipeSl (sl : Sl) : List Nat → Sl
  | [] => sl
  | v :: vs => (wipeSl sl vs).set v none
def restoreSl (sl0 sl : Sl) : List Nat → Sl
  | [] => sl
  | v :: vs => (restoreSl sl0 sl vs).set v (sl0[v]?.getD none)
def setAll (sl : Sl) : List Nat → List D → Option Sl
  | [], [] => some sl
  | i :: is, x :: xs => setAll (sl.set i (some (.d x))) is xs
  | _, _ => none
def assignT (t : T) (x : D) (sl : Sl) : Option Sl := match t, x with
  | .nm i, x => some (sl.set i (some (.d x)))
  | .tp is, .tuple xs => setAll sl is xs
  | .tp2 i is, .tuple [x, .tuple xs] => setAll (sl.set i (some (.d x))) is xs
  | _, _ => none

def globD : Nat → Option D
  | 0 => some (.tuple [.str ⟨#[110, 111]⟩, .str ⟨#[121, 101, 115]⟩])
  | _ => none
def signsTab : List (Str × Str) := [(⟨#[115, 105, 103, 110]⟩, ⟨#[115, 116]⟩), (⟨#[102, 105, 114, 115, 116]⟩, ⟨#[115, 116]⟩), (⟨#[119, 111, 114, 100]⟩, ⟨#[119, 116]⟩), (⟨#[115, 105, 122, 101]⟩, ⟨#[116]⟩), (⟨#[117, 110, 108, 105, 107, 101]⟩, ⟨#[116]⟩), (⟨#[108, 111, 110, 103, 101, 115, 116]⟩, ⟨#[116]⟩), (⟨#[112, 108, 97, 99, 101]⟩, ⟨#[119, 116]⟩), (⟨#[109, 111, 114, 101]⟩, ⟨#[115, 115, 116]⟩)]

/-- the turns of a comprehension of two clauses -/
def compOut (turn : D → List D → Sl → R (List D)) : List D → List D → Sl → R (List D)
  | [], acc, sl => .ok acc sl
  | x :: xs, acc, sl => match turn x acc sl with
    | .ok acc' sl' => compOut turn xs acc' sl'
    | _ => .stuck
/-- the turns of a comprehension -/
def compLoop (turn : D → Sl → R (Option D)) : List D → List D → Sl → R (List D)
  | [], acc, sl => .ok acc sl
  | x :: xs, acc, sl => match turn x sl with
    | .ok (some y) sl' => if acc.length < sizeLine then compLoop turn xs (acc ++ [y]) sl' else .stuck
    | .ok none sl' => compLoop turn xs acc sl'
    | _ => .stuck

def isLst (sl : Sl) (i : Nat) : Bool := match sl[i]? with
  | some (some (.cell _ (.lst _))) => true
  | _ => false
def isDct (sl : Sl) (i : Nat) : Bool := match sl[i]? with
  | some (some (.cell _ (.dK _))) => true
  | _ => false
def isSet (sl : Sl) (i : Nat) : Bool := match sl[i]? with
  | some (some _) => true
  | _ => false
/-- operands: the data, or what is at a slot when the operation is done -/
def zD (sl : Sl) : D ⊕ Nat → Option D
  | .inl x => some x
  | .inr i => peekD sl i
def res1 {α : Type} (sl : Sl) (x : D ⊕ Nat) (g : D → Option α) : Option α := (zD sl x).bind g
def res2 {α : Type} (sl : Sl) (x y : D ⊕ Nat) (g : D → D → Option α) : Option α := (zD sl x).bind fun a => (zD sl y).bind fun b => g a b
def resolve (sl : Sl) : List (D ⊕ Nat) → Option (List D)
  | [] => some []
  | z :: r => (zD sl z).bind fun x => (resolve sl r).map (x :: ·)
def refsOf : List (D ⊕ Nat) → List Nat
  | [] => []
  | .inl _ :: r => refsOf r
  | .inr i :: r => i :: refsOf r
def fillArgs (sl : Sl) : List (D ⊕ Nat) → Option (List X)
  | [] => some []
  | .inl x :: r => (fillArgs sl r).map (X.d x :: ·)
  | .inr i :: r => match sl[i]? with
    | some (some (.cell _ c)) => (fillArgs sl r).map (X.cell false c :: ·)
    | _ => none
def putBack (sl : Sl) : List Nat → List Cell → Option Sl
  | [], [] => some sl
  | i :: is, c :: cs => match sl[i]? with
    | some (some (.cell own _)) => putBack (sl.set i (some (.cell own c))) is cs
    | _ => none
  | _, _ => none
def nodupB : List Nat → Bool
  | [] => true
  | i :: is => !is.contains i && nodupB is

def doCall (Γ : Nat → List X → CR) (f : Nat) (as : List (D ⊕ Nat)) (sl : Sl) : R D :=
  if nodupB (refsOf as) then
    match fillArgs sl as with
    | some xs => match Γ f xs with
      | .ok d outs => match putBack sl (refsOf as) outs with
        | some sl' => .ok d sl'
        | none => .stuck
      | .exc c => if refsOf as = [] then .exc c sl else .stuck
      | .stuck => .stuck
    | none => .stuck
  else .stuck

def zipD (xs ys : List D) : List D := List.zipWith (fun x y => .tuple [x, y]) xs ys
def enumD (xs : List D) : List D := (xs.zipIdx).map fun p => .tuple [.int p.2, p.1]
def rangeD (lo : Int) (n : Nat) : List D := (List.range n).map fun (i : Nat) => .int (lo + i)
def smallI (i : Int) : Bool := decide (-(2 ^ 62) ≤ i) && decide (i < 2 ^ 62)

section
variable (Γ : Nat → List X → CR)
mutual
def evalE : L → Sl → R D
  | .var i, sl => R.of (getD sl i) sl
  | .frz i, sl => frzD sl i
  | .peek i, sl => R.of (peekD sl i) sl
  | .const c, sl => .ok c sl
  | .glob g, sl => R.of (globD g) sl
  | .tup es, sl => (evalLs es sl).bind fun xs sl => if xs.length ≤ sizeLine then .ok (.tuple xs) sl else .stuck
  | .lst es, sl => (evalLs es sl).bind fun xs sl => if xs.length ≤ sizeLine then .ok (.list xs) sl else .stuck
  | .op o a b, sl => (evalZ a sl).bind fun x sl => (evalZ b sl).bind fun y sl => R.of (res2 sl x y (sem2 o)) sl
  | .neg a, sl => (evalE a sl).bind fun x sl => match x with
    | .int i => .ok (.int (-i)) sl
    | _ => .stuck
  | .chain o p a b c, sl => (evalE a sl).bind fun x sl => (evalE b sl).bind fun y sl => match sem2 o x y with
    | some (.bool true) => (evalE c sl).bind fun z sl => R.of (sem2 p y z) sl
    | some (.bool false) => .ok (.bool false) sl
    | _ => .stuck
  | .and_ a b, sl => (evalE a sl).bind fun x sl => if truth x then evalE b sl else .ok x sl
  | .or_ a b, sl => (evalE a sl).bind fun x sl => if truth x then .ok x sl else evalE b sl
  | .not_ a, sl => (evalE a sl).bind fun x sl => .ok (.bool (!truth x)) sl
  | .ite t a b, sl => (evalE t sl).bind fun x sl => if truth x then evalE a sl else evalE b sl
  | .call f as, sl => (evalAs as sl).bind fun xs sl => doCall Γ f xs sl
  | .bi b as, sl => (evalAs as sl).bind fun zs sl => R.of ((resolve sl zs).bind (semB b)) sl
  | .meth m as, sl => (evalAs as sl).bind fun zs sl => R.of ((resolve sl zs).bind (semM m)) sl
  | .idx a i, sl => (evalZ a sl).bind fun x sl => (evalZ i sl).bind fun y sl => R.of (res2 sl x y sIdx) sl
  | .slice a lo hi, sl => (evalZ a sl).bind fun z sl => (evalOl lo sl).bind fun l sl => (evalOl hi sl).bind fun h sl => R.of (res1 sl z fun x => sCut x l h) sl
  | .rev a, sl => (evalZ a sl).bind fun z sl => R.of (res1 sl z sRev) sl
  | .comp elt t it cond own, sl => (evalI it sl).bind fun xs sl0 => if own.all (isData sl0) then
      (compLoop (fun x sl => match assignT t x (wipeSl sl own) with
        | none => .stuck
        | some sl => (evalC cond sl).bind fun b sl => if b then (evalE elt sl).bind fun y sl => .ok (some y) sl else .ok none sl) xs [] sl0).bind fun ys sl => .ok (.list ys) (restoreSl sl0 sl own)
    else .stuck
  | .pop i, sl => match sl[i]? with
    | some (some (.cell own (.lst xs))) => match xs.getLast? with
      | some y => .ok y (sl.set i (some (.cell own (.lst xs.dropLast))))
      | none => .stuck
    | _ => .stuck
  | .popAt i a, sl => if isLst sl i then (evalE a sl).bind fun x sl => match sl[i]?, x with
    | some (some (.cell own (.lst xs))), .int k => if decide (-(2 ^ 63) ≤ k) && decide (k < 2 ^ 63) then match place xs.length k with
      | some j => match xs[j]? with
        | some y => .ok y (sl.set i (some (.cell own (.lst (xs.eraseIdx j)))))
        | none => .stuck
      | none => .stuck else .stuck
    | _, _ => .stuck else .stuck
  | .gin neg a, sl => (evalE a sl).bind fun x sl => match x with
    | .str k => .ok (.bool (if neg then !(signsTab.any fun p => p.1 == k) else signsTab.any fun p => p.1 == k)) sl
    | _ => .stuck
  | .gget a, sl => (evalE a sl).bind fun x sl => match x with
    | .str k => R.of ((signsTab.lookup k).map .str) sl
    | _ => .stuck
  | .chain3 _ _ _ _ _ _ _, _ => .stuck
  | .dict _, _ => .stuck
  | .rng _, _ => .stuck
  | .dget i k d, sl => if isDct sl i then (evalE k sl).bind fun x sl => (evalE d sl).bind fun y sl => match sl[i]? with
    | some (some (.cell _ (.dK kvs))) => R.of ((dK? x).map fun k => (vGet kvs k).getD y) sl
    | _ => .stuck else .stuck
  | .comp2 elt t it t1 it1 cond own own1, sl => (evalI it sl).bind fun xs sl0 => if own.all (isData sl0) then
      (compOut (fun x acc sl => match assignT t x (wipeSl sl own) with
        | none => .stuck
        | some sl => (evalI it1 sl).bind fun ys sl => compLoop (fun y sl => match assignT t1 y (wipeSl sl own1) with
          | none => .stuck
          | some sl => (evalC cond sl).bind fun b sl => if b then (evalE elt sl).bind fun z sl => .ok (some z) sl else .ok none sl) ys acc sl) xs [] sl0).bind fun ys sl => .ok (.list ys) (restoreSl sl0 sl own)
    else .stuck
  | .scomp2 _ _ _ _ _ _ _ _, _ => .stuck
  | .dcomp _ _ _ _ _ _, _ => .stuck
def evalLs : Ls → Sl → R (List D)
  | .nil, sl => .ok [] sl
  | .cons a r, sl => (evalE a sl).bind fun x sl => (evalLs r sl).bind fun xs sl => .ok (x :: xs) sl
def evalZ : Z → Sl → R (D ⊕ Nat)
  | .val a, sl => (evalE a sl).bind fun x sl => .ok (.inl x) sl
  | .ref i, sl => if isSet sl i then .ok (.inr i) sl else .stuck
  | .new, _ => .stuck
def evalAs : As → Sl → R (List (D ⊕ Nat))
  | .nil, sl => .ok [] sl
  | .cons z r, sl => (evalZ z sl).bind fun x sl => (evalAs r sl).bind fun xs sl => .ok (x :: xs) sl
def evalOl : Ol → Sl → R (Option Int)
  | .none, sl => .ok none sl
  | .some a, sl => (evalE a sl).bind fun x sl => match x with
    | .int i => .ok (some i) sl
    | _ => .stuck
def evalC : Ol → Sl → R Bool
  | .none, sl => .ok true sl
  | .some a, sl => (evalE a sl).bind fun x sl => .ok (truth x) sl
def evalI : I → Sl → R (List D)
  | .seq a, sl => (evalE a sl).bind fun x sl => R.of (items x) sl
  | .range1 a, sl => (evalE a sl).bind fun x sl => match x with
    | .int n => if smallI n then .ok (rangeD 0 n.toNat) sl else .stuck
    | _ => .stuck
  | .range2 a b, sl => (evalE a sl).bind fun x sl => (evalE b sl).bind fun y sl => match x, y with
    | .int i, .int j => if smallI i && smallI j then .ok (rangeD i (j - i).toNat) sl else .stuck
    | _, _ => .stuck
  | .zip a b, sl => (evalE a sl).bind fun x sl => (evalE b sl).bind fun y sl => match items x, items y with
    | some xs, some ys => .ok (zipD xs ys) sl
    | _, _ => .stuck
  | .enum a, sl => (evalE a sl).bind fun x sl => R.of ((items x).map enumD) sl
  | .enumz a b, sl => (evalE a sl).bind fun x sl => (evalE b sl).bind fun y sl => match items x, items y with
    | some xs, some ys => .ok (enumD (zipD xs ys)) sl
    | _, _ => .stuck
  | .items a, sl => (evalE a sl).bind fun x sl => match x with
    | .dict kvs => .ok (kvs.map fun p => .tuple [p.1, p.2]) sl
    | _ => .stuck
  | .values a, sl => (evalE a sl).bind fun x sl => match x with
    | .dict kvs => .ok (kvs.map (·.2)) sl
    | _ => .stuck
end

/-- how a statement ends -/
inductive F where
  | nx (sl : Sl) | brk (sl : Sl) | ret (d : D) (sl : Sl) | exc (c : Nat) (sl : Sl) | stuck
def F.seq (f : F) (g : Sl → F) : F := match f with
  | .nx sl => g sl
  | f => f
@[simp] theorem F.seq_nx (sl : Sl) (g : Sl → F) : (F.nx sl).seq g = g sl := rfl
@[simp] theorem F.seq_brk (sl : Sl) (g : Sl → F) : (F.brk sl).seq g = .brk sl := rfl
@[simp] theorem F.seq_ret (d : D) (sl : Sl) (g : Sl → F) : (F.ret d sl).seq g = .ret d sl := rfl
@[simp] theorem F.seq_exc (c : Nat) (sl : Sl) (g : Sl → F) : (F.exc c sl).seq g = .exc c sl := rfl
@[simp] theorem F.seq_stuck (g : Sl → F) : F.stuck.seq g = .stuck := rfl
def R.run {α : Type} (r : R α) (g : α → Sl → F) : F := match r with
  | .ok a sl => g a sl
  | .exc c sl => .exc c sl
  | .stuck => .stuck
@[simp] theorem R.run_ok {α : Type} (a : α) (sl : Sl) (g : α → Sl → F) : (R.ok a sl).run g = g a sl := rfl
@[simp] theorem R.run_exc {α : Type} (c : Nat) (sl : Sl) (g : α → Sl → F) : (R.exc c sl : R α).run g = .exc c sl := rfl
@[simp] theorem R.run_stuck {α : Type} (g : α → Sl → F) : (R.stuck : R α).run g = .stuck := rfl
def F.of (o : Option Sl) : F := match o with
  | some sl => .nx sl
  | none => .stuck
@[simp] theorem F.of_some (sl : Sl) : F.of (some sl) = .nx sl := rfl
@[simp] theorem F.of_none : F.of none = .stuck := rfl

def forLoop (body : D → Sl → F) : List D → Sl → F
  | [], sl => .nx sl
  | x :: xs, sl => match body x sl with
    | .nx sl' => forLoop body xs sl'
    | .brk sl' => .nx sl'
    | f => f
def whileLoop (cond : Sl → R Bool) (body : Sl → F) : Nat → Sl → F
  | 0, _ => .stuck
  | n + 1, sl => (cond sl).run fun b sl => if b then (match body sl with
    | .nx sl' => whileLoop cond body n sl'
    | .brk sl' => .nx sl'
    | f => f) else .nx sl
def fuel : Nat := 1000000000

/-- data becomes a mutable object -/
def thaw : D → Option Cell
  | .list xs => some (.lst xs)
  | _ => none
def setPar (sl : Sl) : List (Nat × Bool) → List X → Option Sl
  | [], [] => some sl
  | (i, _) :: ts, x :: xs => setPar (sl.set i (some x)) ts xs
  | _, _ => none
/-- an expression that makes a mutable object -/
def evalN : L → Sl → R Cell
  | .dict kvs, sl => .ok (.dK kvs) sl
  | l, sl => (evalE Γ l sl).bind fun x sl => R.of (thaw x) sl
/-- values, mutable objects among them -/
def evalPs : List Bool → Ls → Sl → R (List X)
  | [], .nil, sl => .ok [] sl
  | true :: bs, .cons a r, sl => (evalN Γ a sl).bind fun k sl => (evalPs bs r sl).bind fun xs sl => .ok (.cell true k :: xs) sl
  | false :: bs, .cons a r, sl => (evalE Γ a sl).bind fun x sl => (evalPs bs r sl).bind fun xs sl => .ok (.d x :: xs) sl
  | _, _, _ => .stuck
def updCell (sl : Sl) (i : Nat) (f : Cell → Option Cell) : Option Sl := match sl[i]? with
  | some (some (.cell own c)) => (f c).map fun c' => sl.set i (some (.cell own c'))
  | _ => none
def cAppend (x : D) : Cell → Option Cell
  | .lst xs => if xs.length < sizeLine then some (.lst (xs ++ [x])) else none
  | _ => none
def cExtend (ys : List D) : Cell → Option Cell
  | .lst xs => if xs.length + ys.length ≤ sizeLine then some (.lst (xs ++ ys)) else none
  | _ => none
def cInsert (k : Int) (x : D) : Cell → Option Cell
  | .lst xs => if decide (xs.length < sizeLine) && decide (0 ≤ k) && decide (k < 2 ^ 63) then some (.lst (xs.take k.toNat ++ [x] ++ xs.drop k.toNat)) else none
  | _ => none
def cSet (k x : D) : Cell → Option Cell
  | .lst xs => match k with
    | .int i => (place xs.length i).map fun j => .lst (xs.set j x)
    | _ => none
  | _ => none
def cPut (k x : D) : Cell → Option Cell
  | .dK kvs => (dK? k).bind fun k => if kvs.length < sizeLine then some (.dK (vPut kvs k x)) else none
  | _ => none
def cSplice (lo hi : Int) (ys : List D) : Cell → Option Cell
  | .lst xs => if decide (0 ≤ lo) && decide (lo ≤ hi) && decide (hi ≤ xs.length) && decide (xs.length + ys.length ≤ sizeLine) then some (.lst (xs.take lo.toNat ++ ys ++ xs.drop hi.toNat)) else none
  | _ => none
/-- a row of the rows is written -/
def rowApp (xss : List (List D)) (k : Int) (x : D) : Option (List (List D)) := (place xss.length k).bind fun j => (xss[j]?).bind fun xs => if xs.length < sizeLine then some (xss.set j (xs ++ [x])) else none
/-- the loop that fills the rows -/
def rowsFill (turn : D → Sl → R (D × D)) : List D → List (List D) → Sl → Option (List (List D) × Sl)
  | [], xss, sl => some (xss, sl)
  | x :: xs, xss, sl => match turn x sl with
    | .ok (.int k, y) sl' => (rowApp xss k y).bind fun xss' => rowsFill turn xs xss' sl'
    | _ => none
/-- the loop over the rows, each the loop's own meanwhile -/
def rowsWalk (body : Sl → F) (v : Nat) : List (List D) → List (List D) → Sl → Option (List (List D) × Sl)
  | [], done, sl => some (done, sl)
  | xs :: xss, done, sl => match body (sl.set v (some (.cell false (.lst xs)))) with
    | .nx sl' => match sl'[v]? with
      | some (some (.cell false (.lst ys))) => rowsWalk body v xss (done ++ [ys]) (sl'.set v none)
      | _ => none
    | _ => none
def tIdsB : T → List Nat
  | .nm i => [i]
  | .tp is => is
  | .tp2 i is => i :: is
def noPins (sl : Sl) : Bool := sl.all fun x => match x with
  | some .pin => false
  | _ => true
def pinned (sl : Sl) (i : Nat) : Bool := match sl[i]? with
  | some (some .pin) => true
  | _ => false
def sAug : D → D → Option D
  | .int a, .int b => some (.int (a + b))
  | _, _ => none

mutual
def evalS : S → Sl → F
  | .asg t e, sl => (evalE Γ e sl).run fun x sl => F.of (assignT t x sl)
  | .asgC i e, sl => (evalN Γ e sl).run fun c sl => .nx (sl.set i (some (.cell true c)))
  | .par ts es, sl => (evalPs Γ (ts.map (·.2)) es sl).run fun xs sl => F.of (setPar sl ts xs)
  | .setI i k v, sl => (evalE Γ v sl).run fun x sl => if isSet sl i then (evalE Γ k sl).run fun y sl => F.of (updCell sl i (cSet y x)) else .stuck
  | .setD i k v, sl => (evalE Γ v sl).run fun x sl => if isSet sl i then (evalE Γ k sl).run fun y sl => F.of (updCell sl i (cPut y x)) else .stuck
  | .setS i lo hi v, sl => (evalE Γ v sl).run fun x sl => if isSet sl i then (evalE Γ lo sl).run fun l sl => (evalE Γ hi sl).run fun h sl => match x, l, h with
    | .list ys, .int a, .int b => F.of (updCell sl i (cSplice a b ys))
    | _, _, _ => .stuck else .stuck
  | .aug i e, sl => match getD sl i with
    | some x => (evalE Γ e sl).run fun y sl => F.of ((sAug x y).map fun z => sl.set i (some (.d z)))
    | none => .stuck
  | .app i e, sl => if isLst sl i then (evalE Γ e sl).run fun x sl => F.of (updCell sl i (cAppend x)) else .stuck
  | .ext i e, sl => if isLst sl i then (evalN Γ e sl).run fun x sl => match x with
    | .lst ys => F.of (updCell sl i (cExtend ys))
    | _ => .stuck else .stuck
  | .ins i a e, sl => if isLst sl i then (evalE Γ a sl).run fun k sl => (evalE Γ e sl).run fun x sl => match k with
    | .int k => F.of (updCell sl i (cInsert k x))
    | _ => .stuck else .stuck
  | .upd _ _, _ => .stuck
  | .rows i w n t it k e v body, sl => (evalE Γ n sl).run fun x sl => match x with
    | .int m => if smallI m && decide (m ≤ 1000) && noPins sl && [i, w, v].all (isData sl) && decide (i < sl.length) && decide (v < sl.length) && decide (i ≠ v) then
        match evalI Γ it ((sl.set i (some .pin)).set v none) with
        | .ok xs sl1 => match rowsFill (fun x sl => match assignT t x sl with
          | none => .stuck
          | some sl => if pinned sl i then (evalE Γ k sl).bind fun y sl => (evalE Γ e sl).bind fun z sl => .ok (y, z) sl else .stuck) xs (List.replicate m.toNat []) sl1 with
          | some (xss, sl2) => if isData sl2 v && pinned sl2 i && decide (v < sl2.length) then match rowsWalk (evalSs body) v xss [] sl2 with
            | some (yss, sl3) => if pinned sl3 i && noPins (sl3.set i none) then .nx (sl3.set i (some (.d (.list (yss.map .list))))) else .stuck
            | none => .stuck
            else .stuck
          | none => .stuck
        | _ => .stuck
      else .stuck
    | _ => .stuck
  | .expr e, sl => (evalE Γ e sl).run fun _ sl => .nx sl
  | .ite c a b, sl => (evalE Γ c sl).run fun x sl => if truth x then evalSs a sl else evalSs b sl
  | .for_ t it body, sl => (evalI Γ it sl).run fun xs sl => forLoop (fun x sl => match assignT t x sl with
    | some sl => evalSs body sl
    | none => .stuck) xs sl
  | .while_ c body, sl => whileLoop (fun sl => (evalE Γ c sl).bind fun x sl => .ok (truth x) sl) (evalSs body) fuel sl
  | .ret e, sl => (evalE Γ e sl).run fun x sl => .ret x sl
  | .retN, sl => .ret .none sl
  | .raise c, sl => .exc c sl
  | .try_ body hs, sl => match evalSs body sl with
    | .exc c sl' => evalHs hs c sl'
    | f => f
  | .brk, sl => .brk sl
  | .pass, sl => .nx sl
def evalSs : Ss → Sl → F
  | .nil, sl => .nx sl
  | .cons s r, sl => (evalS s sl).seq fun sl => evalSs r sl
def evalHs : Hs → Nat → Sl → F
  | .nil, _, _ => .stuck
  | .cons c' i e r, c, sl => if c = c' then (evalE Γ e sl).run fun x sl => .nx (sl.set i (some (.d x))) else evalHs r c sl
end

def outsOf (sl : Sl) : Nat → List Bool → Option (List Cell)
  | _, [] => some []
  | i, false :: r => outsOf sl (i + 1) r
  | i, true :: r => match sl[i]? with
    | some (some (.cell false c)) => (outsOf sl (i + 1) r).map (c :: ·)
    | _ => none
def argsFit : List Bool → List X → Bool
  | [], [] => true
  | false :: r, .d _ :: xs => argsFit r xs
  | true :: r, .cell false _ :: xs => argsFit r xs
  | _, _ => false
def startSl (fn : Fn) (xs : List X) : Sl := xs.map some ++ List.replicate (fn.names.length - xs.length) none
def endFn (fn : Fn) : F → CR
  | .ret d sl => match outsOf sl 0 fn.ins with
    | some outs => .ok d outs
    | none => .stuck
  | .nx sl => match outsOf sl 0 fn.ins with
    | some outs => .ok .none outs
    | none => .stuck
  | .exc c _ => if fn.ins.all (!·) then .exc c else .stuck
  | _ => .stuck
def runFn (fn : Fn) (xs : List X) : CR := if argsFit fn.ins xs then endFn fn (evalSs Γ fn.body (startSl fn xs)) else .stuck
end

/-- the defs, by number, run to a depth -/
def run (prog : Nat → Option Fn) : Nat → Nat → List X → CR
  | 0, _, _ => .stuck
  | n + 1, f, xs => match prog f with
    | some fn => runFn (run prog n) fn xs
    | none => .stuck
theorem run_succ {prog : Nat → Option Fn} {n f : Nat} {fn : Fn} (h : prog f = some fn) (xs : List X) : run prog (n + 1) f xs = runFn (run prog n) fn xs := by
  show (match prog f with | some fn => runFn (run prog n) fn xs | none => .stuck) = _
  rw [h]
end Rf
end
section
set_option linter.all false
set_option maxRecDepth 100000
namespace Rf
open PySem PySem.Spec PyProof.Rows L2

/-- a list, a tuple that nobody may write any more (C: the addresses that may be written) -/
def RdF (H : Hp) (C : Addr → Prop) (a : Addr) (u : HO) : Prop := Rd H a u ∧ ¬ C a
def SqLf (K : PySem.W.Frag) (H : Hp) (C : Addr → Prop) (a : Addr) (xs : List V) : Prop :=
  (Rd H a (.lst xs) ∧ ¬ C a) ∨
    ∃ (o : Obj) (its : Array Value) (n : Nat), K.lookup a = some o ∧ o.cls = .type "list" ∧ o.dict = none ∧ o.data = .seq its n ∧ its.size ≤ sizeLine ∧ Vals xs its.toList
def SqTf (K : PySem.W.Frag) (H : Hp) (C : Addr → Prop) (a : Addr) (xs : List V) : Prop :=
  (Rd H a (.tup xs) ∧ ¬ C a) ∨
    ∃ (o : Obj) (its : Array Value) (n : Nat), K.lookup a = some o ∧ o.cls = .type "tuple" ∧ o.data = .seq its n ∧ its.size ≤ sizeLine ∧ Vals xs its.toList
theorem SqLf.sq {K H C a xs} (h : SqLf K H C a xs) : SqL K H a xs := h.imp (·.1) id
theorem SqTf.sq {K H C a xs} (h : SqTf K H C a xs) : SqT K H a xs := h.imp (·.1) id

mutual
inductive Rp (K : PySem.W.Frag) (H : Hp) (C : Addr → Prop) : V → D → Prop
  | non : Rp K H C .non .none
  | bl (b : Bool) : Rp K H C (.bl b) (.bool b)
  | int (i : Int) : Rp K H C (.int i) (.int i)
  | str (x : Str) : x.length ≤ sizeLine → Rp K H C (.str x) (.str x)
  | lst {a : Addr} {xs : List V} {ds : List D} : SqLf K H C a xs → RpAll K H C xs ds → Rp K H C (.ref a) (.list ds)
  | tup {a : Addr} {xs : List V} {ds : List D} : SqTf K H C a xs → RpAll K H C xs ds → Rp K H C (.ref a) (.tuple ds)
inductive RpAll (K : PySem.W.Frag) (H : Hp) (C : Addr → Prop) : List V → List D → Prop
  | nil : RpAll K H C [] []
  | cons {v : V} {vs : List V} {d : D} {ds : List D} : Rp K H C v d → RpAll K H C vs ds → RpAll K H C (v :: vs) (d :: ds)
end

section
variable {K : PySem.W.Frag} {H H' : Hp} {C C' : Addr → Prop}
mutual
theorem Rp.mono (hs : ∀ a u, Rd H a u → ¬ C a → Rd H' a u ∧ ¬ C' a) : ∀ {v : V} {d : D}, Rp K H C v d → Rp K H' C' v d
  | _, _, .non => .non
  | _, _, .bl b => .bl b
  | _, _, .int i => .int i
  | _, _, .str x h => .str x h
  | _, _, .lst s r => .lst (s.imp (fun q => hs _ _ q.1 q.2) id) (RpAll.mono hs r)
  | _, _, .tup s r => .tup (s.imp (fun q => hs _ _ q.1 q.2) id) (RpAll.mono hs r)
theorem RpAll.mono (hs : ∀ a u, Rd H a u → ¬ C a → Rd H' a u ∧ ¬ C' a) : ∀ {v : List V} {d : List D}, RpAll K H C v d → RpAll K H' C' v d
  | _, _, .nil => .nil
  | _, _, .cons r t => .cons (Rp.mono hs r) (RpAll.mono hs t)
end
mutual
theorem Rp.dp : ∀ {v : V} {d : D}, Rp K H C v d → Dp K H v d
  | _, _, .non => .non
  | _, _, .bl b => .bl b
  | _, _, .int i => .int i
  | _, _, .str x h => .str x
  | _, _, .lst s r => .lst s.sq (RpAll.dp r)
  | _, _, .tup s r => .tup s.sq (RpAll.dp r)
theorem RpAll.dp : ∀ {v : List V} {d : List D}, RpAll K H C v d → DpAll K H v d
  | _, _, .nil => .nil
  | _, _, .cons r t => .cons (Rp.dp r) (RpAll.dp t)
end
theorem RpAll.length : ∀ {v : List V} {d : List D}, RpAll K H C v d → v.length = d.length
  | _, _, .nil => rfl
  | _, _, .cons _ t => by rw [List.length_cons, List.length_cons, RpAll.length t]
theorem RpAll.append : ∀ {v v' : List V} {d d' : List D}, RpAll K H C v d → RpAll K H C v' d' → RpAll K H C (v ++ v') (d ++ d')
  | _, _, _, _, .nil, s => s
  | _, _, _, _, .cons r t, s => .cons r (RpAll.append t s)
theorem RpAll.get : ∀ {v : List V} {d : List D} {i : Nat} {x : D}, RpAll K H C v d → d[i]? = some x → ∃ u, v[i]? = some u ∧ Rp K H C u x
  | _, _, _, _, .nil, e => by simp at e
  | _, _, 0, _, .cons r _, e => by simp at e; subst e; exact ⟨_, rfl, r⟩
  | _, _, i + 1, x, .cons _ t, e => by
    obtain ⟨u, h1, h2⟩ := RpAll.get (i := i) (x := x) t (by simpa using e)
    exact ⟨u, by simpa using h1, h2⟩
theorem RpAll.getV : ∀ {v : List V} {d : List D} {i : Nat} {u : V}, RpAll K H C v d → v[i]? = some u → ∃ x, d[i]? = some x ∧ Rp K H C u x
  | _, _, _, _, .nil, e => by simp at e
  | _, _, 0, _, .cons r _, e => by simp at e; subst e; exact ⟨_, rfl, r⟩
  | _, _, i + 1, x, .cons _ t, e => by
    obtain ⟨u, h1, h2⟩ := RpAll.getV (i := i) (u := x) t (by simpa using e)
    exact ⟨u, by simpa using h1, h2⟩
theorem RpAll.take : ∀ {v : List V} {d : List D} (n : Nat), RpAll K H C v d → RpAll K H C (v.take n) (d.take n)
  | _, _, 0, _ => .nil
  | _, _, _ + 1, .nil => .nil
  | _, _, n + 1, .cons r t => .cons r (RpAll.take n t)
theorem RpAll.drop : ∀ {v : List V} {d : List D} (n : Nat), RpAll K H C v d → RpAll K H C (v.drop n) (d.drop n)
  | _, _, 0, r => r
  | _, _, _ + 1, .nil => .nil
  | _, _, n + 1, .cons _ t => RpAll.drop n t
theorem RpAll.rev {v : List V} {d : List D} (h : RpAll K H C v d) : RpAll K H C v.reverse d.reverse := by
  induction v generalizing d with
  | nil => cases h; exact .nil
  | cons x xs ih => cases h with | cons r t => rw [List.reverse_cons, List.reverse_cons]; exact (ih t).append (.cons r .nil)
theorem RpAll.set {x : V} {u : D} (r : Rp K H C x u) : ∀ {xs : List V} {us : List D} (i : Nat), RpAll K H C xs us → RpAll K H C (xs.set i x) (us.set i u)
  | _, _, _, .nil => .nil
  | _, _, 0, .cons _ t => .cons r t
  | _, _, i + 1, .cons q t => .cons q (RpAll.set r i t)
theorem RpAll.eraseIdx {xs : List V} {us : List D} (i : Nat) (h : RpAll K H C xs us) : RpAll K H C (xs.eraseIdx i) (us.eraseIdx i) := by
  induction i generalizing xs us with
  | zero => cases h with
    | nil => exact .nil
    | cons _ t => exact t
  | succ n ih => cases h with
    | nil => exact .nil
    | cons r t => exact .cons r (ih t)
theorem RpAll.dropLast {xs : List V} {us : List D} (h : RpAll K H C xs us) : RpAll K H C xs.dropLast us.dropLast := by
  rw [List.dropLast_eq_take, List.dropLast_eq_take, h.length]
  exact h.take _
theorem RpAll.flatten {xs : List V} {us : List D} (h : RpAll K H C xs us) : ∀ n : Nat, RpAll K H C (List.replicate n xs).flatten (List.replicate n us).flatten
  | 0 => .nil
  | n + 1 => by rw [List.replicate_succ, List.replicate_succ, List.flatten_cons, List.flatten_cons]; exact h.append (RpAll.flatten h n)
end

/-- a dict's pairs -/
inductive RpKV (K : PySem.W.Frag) (H : Hp) (C : Addr → Prop) : List (Key × V) → List (DK × D) → Prop
  | nil : RpKV K H C [] []
  | cons {k : Key} {v : V} {d : D} {vs ds} : Rp K H C v d → RpKV K H C vs ds → RpKV K H C ((k, v) :: vs) ((k, d) :: ds)
section
variable {K : PySem.W.Frag} {H H' : Hp} {C C' : Addr → Prop}
theorem RpKV.mono (hs : ∀ a u, Rd H a u → ¬ C a → Rd H' a u ∧ ¬ C' a) {vs : List (Key × V)} {ds : List (DK × D)} (h : RpKV K H C vs ds) : RpKV K H' C' vs ds := by
  induction h with
  | nil => exact .nil
  | cons r t ih => exact .cons (r.mono hs) ih
theorem RpKV.length {vs : List (Key × V)} {ds : List (DK × D)} (h : RpKV K H C vs ds) : vs.length = ds.length := by
  induction h with
  | nil => rfl
  | cons r t ih => simp [ih]
/-- the value at a key -/
inductive RpO (K : PySem.W.Frag) (H : Hp) (C : Addr → Prop) : Option V → Option D → Prop
  | none : RpO K H C none none
  | some {v d} : Rp K H C v d → RpO K H C (some v) (some d)
theorem RpO.some_eq {o : Option V} {u : Option D} (h : RpO K H C o u) : o.isSome = u.isSome := by cases h <;> rfl
theorem RpKV.get {vs : List (Key × V)} {ds : List (DK × D)} (h : RpKV K H C vs ds) (k : Key) : RpO K H C (valV vs k) (vGet ds k) := by
  induction h with
  | nil => exact .none
  | @cons k' v d vs ds r t ih =>
    by_cases e : k' = k
    · have e1 : valV ((k', v) :: vs) k = some v := by unfold valV; rw [List.find?_cons]; simp [e]
      have e2 : vGet ((k', d) :: ds) k = some d := by unfold vGet; rw [List.find?_cons]; simp [e]
      rw [e1, e2]; exact .some r
    · have e1 : valV ((k', v) :: vs) k = valV vs k := by unfold valV; rw [List.find?_cons]; simp [e]
      have e2 : vGet ((k', d) :: ds) k = vGet ds k := by unfold vGet; rw [List.find?_cons]; simp [e]
      rw [e1, e2]; exact ih
theorem RpKV.any {vs : List (Key × V)} {ds : List (DK × D)} (h : RpKV K H C vs ds) (k : Key) : (vs.any fun kv => decide (kv.1 = k)) = ds.any fun kv => decide (kv.1 = k) := by
  induction h with
  | nil => rfl
  | cons r t ih => rw [List.any_cons, List.any_cons, ih]
theorem RpKV.repl {vs : List (Key × V)} {ds : List (DK × D)} (h : RpKV K H C vs ds) (k : Key) {y : V} {x : D} (ry : Rp K H C y x) :
    RpKV K H C (vs.map fun kv => if kv.1 = k then (kv.1, y) else kv) (ds.map fun kv => if kv.1 = k then (kv.1, x) else kv) := by
  induction h with
  | nil => exact .nil
  | @cons k' v d vs ds r t ih =>
    rw [List.map_cons, List.map_cons]
    by_cases e : k' = k
    · rw [if_pos e, if_pos e]; exact .cons ry ih
    · rw [if_neg e, if_neg e]; exact .cons r ih
theorem RpKV.snoc {vs : List (Key × V)} {ds : List (DK × D)} (h : RpKV K H C vs ds) (k : Key) {y : V} {x : D} (ry : Rp K H C y x) : RpKV K H C (vs ++ [(k, y)]) (ds ++ [(k, x)]) := by
  induction h with
  | nil => exact .cons ry .nil
  | cons r t ih => exact .cons r ih
theorem RpKV.put {vs : List (Key × V)} {ds : List (DK × D)} (h : RpKV K H C vs ds) (k : Key) {y : V} {x : D} (ry : Rp K H C y x) : RpKV K H C (putK vs k y) (vPut ds k x) := by
  unfold putK vPut
  rw [h.any k]
  split
  · exact h.repl k ry
  · exact h.snoc k ry
end
/-- what may be read as data: a mutable list, too (its items are told as data is); a dict -/
inductive Rt (K : PySem.W.Frag) (H : Hp) (C : Addr → Prop) : V → D → Prop
  | rp {v d} : Rp K H C v d → Rt K H C v d
  | dK {a : Addr} {vs : List (Key × V)} {ds : List (DK × D)} : H a = some (.dK vs) → RpKV K H C vs ds → Rt K H C (.ref a) (.dict (kvD ds))
  | lst {a : Addr} {xs : List V} {ds : List D} : SqL K H a xs → RpAll K H C xs ds → Rt K H C (.ref a) (.list ds)

section
variable {K : PySem.W.Frag} {H H' : Hp} {C C' : Addr → Prop} {v : V} {d : D}
theorem Rt.dp' (h : Rt K H C v d) (hd : ∀ kvs, d ≠ .dict kvs) : Dp K H v d := by
  cases h with
  | rp h => exact h.dp
  | lst s r => exact .lst s r.dp
  | dK s r => exact absurd rfl (hd _)
theorem Rt.dp (h : Rt K H C v d) (hd : d.plain = true) : Dp K H v d := h.dp' fun kvs e => by subst e; cases hd
theorem dKs_kvD : ∀ ds : List (DK × D), dKs (kvD ds) = some ds
  | [] => rfl
  | (k, d) :: r => by
    show (dK? (kD k)).bind (fun k => (dKs (kvD r)).map ((k, d) :: ·)) = _
    rw [dKs_kvD r]
    cases k <;> rfl
theorem Rt.dict {kvs : List (D × D)} (h : Rt K H C v (.dict kvs)) : ∃ a vs ds, v = .ref a ∧ H a = some (.dK vs) ∧ RpKV K H C vs ds ∧ kvs = kvD ds := by
  cases h with
  | rp h => cases h
  | dK s r => exact ⟨_, _, _, rfl, s, r, rfl⟩
theorem Rt.list {ds : List D} (h : Rt K H C v (.list ds)) : ∃ a xs, v = .ref a ∧ SqL K H a xs ∧ RpAll K H C xs ds := by
  cases h with
  | rp h => cases h with | lst s r => exact ⟨_, _, rfl, s.sq, r⟩
  | lst s r => exact ⟨_, _, rfl, s, r⟩
theorem Rt.tuple {ds : List D} (h : Rt K H C v (.tuple ds)) : ∃ a xs, v = .ref a ∧ SqT K H a xs ∧ RpAll K H C xs ds ∧ Rp K H C v (.tuple ds) := by
  cases h with
  | rp h => cases h with | tup s r => exact ⟨_, _, rfl, s.sq, r, .tup s r⟩
theorem Rt.int {i : Int} (h : Rt K H C v (.int i)) : v = .int i := by cases h with | rp h => cases h; rfl
theorem Rt.bl {b : Bool} (h : Rt K H C v (.bool b)) : v = .bl b := by cases h with | rp h => cases h; rfl
theorem Rt.non (h : Rt K H C v .none) : v = .non := by cases h with | rp h => cases h; rfl
theorem Rt.str {x : Str} (h : Rt K H C v (.str x)) : v = .str x ∧ x.length ≤ sizeLine := by cases h with | rp h => cases h with | str _ q => exact ⟨rfl, q⟩
/-- a key -/
theorem Rt.key {k : DK} (h : Rt K H C v d) (hk : dK? d = some k) : v = kV k := by
  cases d with
  | int i => obtain rfl := Option.some.inj hk; exact h.int
  | str x => obtain rfl := Option.some.inj hk; exact h.str.1
  | _ => cases hk
end

/-- what stands at a mutable object -/
def CellAt (K : PySem.W.Frag) (H : Hp) (C : Addr → Prop) (a : Addr) : Cell → Prop
  | .lst ds => ∃ xs, H a = some (.lst xs) ∧ RpAll K H C xs ds
  | .dK ds => ∃ vs, H a = some (.dK vs) ∧ RpKV K H C vs ds

/-- the step from one state to a later one: W the addresses that may be written -/
structure Stp (W : Addr → Prop) (H : Hp) (W' : Addr → Prop) (H' : Hp) : Prop where
  keep : ∀ a o, H a = some o → ¬ W a → H' a = some o
  free : ∀ a, W' a → W a ∨ H a = none
theorem Stp.refl {W : Addr → Prop} {H : Hp} : Stp W H W H := ⟨fun _ _ h _ => h, fun _ h => .inl h⟩
theorem Stp.trans {W W1 W2 : Addr → Prop} {H H1 H2 : Hp} (a : Stp W H W1 H1) (b : Stp W1 H1 W2 H2) : Stp W H W2 H2 := by
  refine ⟨fun c o h n => b.keep c o (a.keep c o h n) fun h1 => ?_, fun c h => ?_⟩
  · rcases a.free c h1 with q | q
    · exact n q
    · rw [h] at q; cases q
  · rcases b.free c h with q | q
    · exact a.free c q
    · by_cases hw : W c
      · exact .inl hw
      · refine .inr ?_
        cases e : H c with
        | none => rfl
        | some o => rw [a.keep c o e hw] at q; cases q
/-- nothing is written -/
theorem Stp.grow {W : Addr → Prop} {H H' : Hp} (h : ∀ a o, H a = some o → H' a = some o) : Stp W H W H' := ⟨fun a o e _ => h a o e, fun _ h => .inl h⟩

/-- the addresses that are not to be shared: this def's and its callers' -/
def un (W C0 : Addr → Prop) : Addr → Prop := fun a => W a ∨ C0 a
theorem Rd.keep {W W' C0 : Addr → Prop} {H H' : Hp} (s : Stp W H W' H') {a : Addr} {u : HO} (r : Rd H a u) (n : ¬ un W C0 a) : Rd H' a u ∧ ¬ un W' C0 a := by
  have hw : ¬ W a := fun h => n (.inl h)
  refine ⟨?_, fun q => ?_⟩
  · rcases r with r | ⟨o, r⟩
    · exact .inl (s.keep _ _ r hw)
    · exact .inr ⟨o, s.keep _ _ r hw⟩
  · rcases q with q | q
    · rcases s.free _ q with z | z
      · exact hw z
      · rcases r with r | ⟨o, r⟩ <;> (rw [r] at z; cases z)
    · exact n (.inr q)
theorem Rp.step {K : PySem.W.Frag} {W W' C0 : Addr → Prop} {H H' : Hp} (s : Stp W H W' H') {v : V} {d : D} (r : Rp K H (un W C0) v d) : Rp K H' (un W' C0) v d :=
  r.mono fun _ _ q n => Rd.keep s q n
theorem RpAll.step {K : PySem.W.Frag} {W W' C0 : Addr → Prop} {H H' : Hp} (s : Stp W H W' H') {v : List V} {d : List D} (r : RpAll K H (un W C0) v d) : RpAll K H' (un W' C0) v d :=
  r.mono fun _ _ q n => Rd.keep s q n

/-- what stays fixed through a def's body: the written part; the addresses that the callers may write; the parameters' values; the classes of the exceptions -/
structure Cfg where
  K : PySem.W.Frag
  C0 : Addr → Prop
  org : Nat → V → Prop
  cl : Nat → Value
  pv : V := .non

/-- what stands in a slot -/
def RX (c : Cfg) (W : Addr → Prop) (H : Hp) (v : V) : X → Prop
  | .d x => Rp c.K H (un W c.C0) v x
  | .cell own k => ∃ a, v = .ref a ∧ W a ∧ (own = true ↔ ¬ c.C0 a) ∧ CellAt c.K H (un W c.C0) a k
  | .pin => v = c.pv

/-- the slots' relation. W: the addresses that this def may write -/
structure SR (c : Cfg) (W : Addr → Prop) (sl : Sl) (σ : L2.St) (H : Hp) : Prop where
  trk : ∀ a, un W c.C0 a → H a ≠ none
  len : sl.length = σ.length
  slot : ∀ (i : Nat) (x : X), sl[i]? = some (some x) → ∃ v : V, σ[i]? = some (some v) ∧ RX c W H v x
  inj : ∀ (i j : Nat) (b b' : Bool) (k k' : Cell) (v : V), sl[i]? = some (some (.cell b k)) → sl[j]? = some (some (.cell b' k')) → σ[i]? = some (some v) → σ[j]? = some (some v) → i = j
  org : ∀ (i : Nat) (k : Cell) (v : V), sl[i]? = some (some (.cell false k)) → σ[i]? = some (some v) → c.org i v

/-- a result and what follows it -/
def WP {α : Type} (c : Cfg) (Wx : WX) (σ : L2.St) (W : Addr → Prop) (H : Hp) (r : R α) (k : α → (Addr → Prop) → Sl → Hp → Prop) : Prop := match r with
  | .ok a sl' => ∀ W' H', Stp W H W' H' → SR c W' sl' σ H' → k a W' sl' H'
  | .exc e sl' => ∀ W' H', Stp W H W' H' → SR c W' sl' σ H' → Wx (c.cl e) none σ H'
  | .stuck => False
section
variable {α β : Type} {c : Cfg} {Wx : WX} {σ : L2.St} {W W1 : Addr → Prop} {H H1 : Hp} {r : R α}
theorem WP.step {k : α → (Addr → Prop) → Sl → Hp → Prop} (s : Stp W H W1 H1) (h : WP c Wx σ W H r k) : WP c Wx σ W1 H1 r k := by
  cases r with
  | ok a sl => exact fun W' H' st sr => h W' H' (s.trans st) sr
  | exc c sl => exact fun W' H' st sr => h W' H' (s.trans st) sr
  | stuck => exact h
theorem WP.mono {k k' : α → (Addr → Prop) → Sl → Hp → Prop} (h : WP c Wx σ W H r k) (f : ∀ a W' sl' H', Stp W H W' H' → SR c W' sl' σ H' → k a W' sl' H' → k' a W' sl' H') : WP c Wx σ W H r k' := by
  cases r with
  | ok a sl => exact fun W' H' st sr => f _ _ _ _ st sr (h W' H' st sr)
  | exc c sl => exact h
  | stuck => exact h
theorem WP.bind {f : α → Sl → R β} {k : β → (Addr → Prop) → Sl → Hp → Prop} (h : WP c Wx σ W H (r.bind f) k) : WP c Wx σ W H r fun a W' sl' H' => WP c Wx σ W' H' (f a sl') k := by
  cases r with
  | ok a sl => exact fun W' H' st sr => WP.step st h
  | exc c sl => exact h
  | stuck => exact h
theorem WP.of {o : Option α} {sl : Sl} {k : α → (Addr → Prop) → Sl → Hp → Prop} (h : WP c Wx σ W H (R.of o sl) k) : ∃ a, o = some a ∧ WP c Wx σ W H (.ok a sl) k := by
  cases o with
  | none => exact h.elim
  | some a => exact ⟨a, rfl, h⟩
/-- the result is at hand: nothing was written -/
theorem WP.now {a : α} {sl : Sl} {k : α → (Addr → Prop) → Sl → Hp → Prop} (h : WP c Wx σ W H (.ok a sl) k) (sr : SR c W sl σ H) : k a W sl H := h W H .refl sr
end

/-- an expression's reading: m the evaluator, Re how its result stands -/
def tM {α : Type} (c : Cfg) (Wx : WX) (m : Sl → R α) (Re : L2.St → α → V → Hp → (Addr → Prop) → Prop) : TE := fun σ H Q =>
  ∃ W sl, SR c W sl σ H ∧ WP c Wx σ W H (m sl) fun a W' _ H' => ∀ v, Re σ a v H' (un W' c.C0) → Q v H'
/-- by data that nobody writes; by data -/
def rP (K : PySem.W.Frag) : L2.St → D → V → Hp → (Addr → Prop) → Prop := fun _ d v H C => Rp K H C v d
def rT (K : PySem.W.Frag) : L2.St → D → V → Hp → (Addr → Prop) → Prop := fun _ d v H C => Rt K H C v d
/-- an operand: data, or what is at a slot -/
def rZ (K : PySem.W.Frag) : L2.St → (D ⊕ Nat) → V → Hp → (Addr → Prop) → Prop := fun σ z v H C => match z with
  | .inl d => Rp K H C v d
  | .inr i => σ[i]? = some (some v)
/-- an argument list's reading -/
def tMs {α : Type} (c : Cfg) (Wx : WX) (m : Sl → R α) (Re : L2.St → α → List V → Hp → (Addr → Prop) → Prop) : TA := fun σ H Q =>
  ∃ W sl, SR c W sl σ H ∧ WP c Wx σ W H (m sl) fun a W' _ H' => ∀ vs, Re σ a vs H' (un W' c.C0) → Q vs H'
def rPs (K : PySem.W.Frag) : L2.St → List D → List V → Hp → (Addr → Prop) → Prop := fun _ ds vs H C => RpAll K H C vs ds
inductive RZs (K : PySem.W.Frag) (σ : L2.St) (H : Hp) (C : Addr → Prop) : List (D ⊕ Nat) → List V → Prop
  | nil : RZs K σ H C [] []
  | cons {z v zs vs} : rZ K σ z v H C → RZs K σ H C zs vs → RZs K σ H C (z :: zs) (v :: vs)
def rZs (K : PySem.W.Frag) : L2.St → List (D ⊕ Nat) → List V → Hp → (Addr → Prop) → Prop := fun σ zs vs H C => RZs K σ H C zs vs

section
variable {K : PySem.W.Frag} {C0 W W' : Addr → Prop} {H H' : Hp} {σ : L2.St}
theorem rZ.step (st : Stp W H W' H') {z : D ⊕ Nat} {v : V} (h : rZ K σ z v H (un W C0)) : rZ K σ z v H' (un W' C0) := by
  cases z with
  | inl d => exact Rp.step st (show Rp K H (un W C0) v d from h)
  | inr i => exact h
theorem RZs.step (st : Stp W H W' H') {zs : List (D ⊕ Nat)} {vs : List V} (h : RZs K σ H (un W C0) zs vs) : RZs K σ H' (un W' C0) zs vs := by
  induction h with
  | nil => exact .nil
  | cons a _ ih => exact .cons (rZ.step st a) ih
end

/-- the slots stand, things being made -/
theorem CellAt.grow {K : PySem.W.Frag} {H H' : Hp} {C C' : Addr → Prop} {a : Addr} (hs : ∀ a u, Rd H a u → ¬ C a → Rd H' a u ∧ ¬ C' a) (h : ∀ o, H a = some o → H' a = some o) : ∀ {c : Cell}, CellAt K H C a c → CellAt K H' C' a c
  | .lst _, ⟨xs, e, r⟩ => ⟨xs, h _ e, r.mono hs⟩
  | .dK _, ⟨xs, e, r⟩ => ⟨xs, h _ e, r.mono hs⟩
theorem CellAt.there {K : PySem.W.Frag} {H : Hp} {C : Addr → Prop} {a : Addr} : ∀ {c : Cell}, CellAt K H C a c → ∃ o, H a = some o
  | .lst _, ⟨xs, e, r⟩ => ⟨_, e⟩
  | .dK _, ⟨xs, e, r⟩ => ⟨_, e⟩
section
variable {c : Cfg} {W : Addr → Prop} {sl : Sl} {σ : L2.St} {H H' : Hp}
theorem SR.grow (sr : SR c W sl σ H) (h : ∀ a o, H a = some o → H' a = some o) : SR c W sl σ H' := by
  have st : Stp W H W H' := .grow h
  refine ⟨fun a ha e => ?_, sr.len, fun i x e => ?_, sr.inj, sr.org⟩
  · cases q : H a with
    | none => exact sr.trk a ha q
    | some o => rw [h a o q] at e; cases e
  · obtain ⟨v, e1, r⟩ := sr.slot i x e
    refine ⟨v, e1, ?_⟩
    cases x with
    | d x => exact Rp.step st (show Rp c.K H (un W c.C0) v x from r)
    | cell own k =>
      obtain ⟨a, ea, wa, ow, ca⟩ := r
      exact ⟨a, ea, wa, ow, ca.grow (fun _ _ q n => Rd.keep st q n) (h a)⟩
    | pin => exact r
theorem SR.data (sr : SR c W sl σ H) {i : Nat} {x : D} (h : getD sl i = some x) : ∃ v, σ[i]? = some (some v) ∧ Rp c.K H (un W c.C0) v x := by
  unfold getD at h
  split at h
  · rename_i y e
    obtain rfl := Option.some.inj h
    exact sr.slot i _ e
  · cases h
theorem SR.peek (sr : SR c W sl σ H) {i : Nat} {x : D} (h : peekD sl i = some x) : ∃ v, σ[i]? = some (some v) ∧ Rt c.K H (un W c.C0) v x := by
  unfold peekD at h
  split at h
  · rename_i y e
    obtain rfl := Option.some.inj h
    obtain ⟨v, e1, r⟩ := sr.slot i _ e
    exact ⟨v, e1, .rp r⟩
  · rename_i own xs e
    obtain rfl := Option.some.inj h
    obtain ⟨v, e1, a, rfl, wa, ow, ys, ea, ra⟩ := sr.slot i _ e
    exact ⟨_, e1, .lst (.of ea) ra⟩
  · rename_i own xs e
    obtain rfl := Option.some.inj h
    obtain ⟨v, e1, a, rfl, wa, ow, ys, ea, ra⟩ := sr.slot i _ e
    exact ⟨_, e1, .dK ea ra⟩
  · cases h
/-- an operand's data -/
theorem SR.zd (sr : SR c W sl σ H) {z : D ⊕ Nat} {v : V} {x : D} (r : rZ c.K σ z v H (un W c.C0)) (h : zD sl z = some x) : Rt c.K H (un W c.C0) v x := by
  cases z with
  | inl d =>
    obtain rfl := Option.some.inj (show some d = some x from h)
    exact .rp r
  | inr i =>
    obtain ⟨u, e, ru⟩ := sr.peek (show peekD sl i = some x from h)
    obtain rfl : v = u := Option.some.inj (Option.some.inj ((show σ[i]? = some (some v) from r).symm.trans e))
    exact ru
theorem upd_grow {H : Hp} {p : Addr} {o : HO} (h : H p = none) : ∀ a u, H a = some u → upd H p o a = some u := fun a u e => by
  rw [upd_ne (ne_of_none e h)]; exact e
end
inductive RtAll (K : PySem.W.Frag) (H : Hp) (C : Addr → Prop) : List V → List D → Prop
  | nil : RtAll K H C [] []
  | cons {v vs d ds} : Rt K H C v d → RtAll K H C vs ds → RtAll K H C (v :: vs) (d :: ds)
theorem SR.zds {c : Cfg} {W : Addr → Prop} {sl : Sl} {σ : L2.St} {H : Hp} (sr : SR c W sl σ H) {zs : List (D ⊕ Nat)} {vs : List V} (r : RZs c.K σ H (un W c.C0) zs vs) : ∀ {ds : List D}, resolve sl zs = some ds → RtAll c.K H (un W c.C0) vs ds := by
  induction r with
  | nil => intro ds h; obtain rfl := Option.some.inj h; exact .nil
  | @cons z v zs vs a _ ih =>
    intro ds h
    obtain ⟨x, hx, h⟩ := Option.bind_eq_some_iff.mp (show (zD sl z).bind (fun x => (resolve sl zs).map (x :: ·)) = some ds from h)
    obtain ⟨ys, hy, rfl⟩ := Option.map_eq_some_iff.mp h
    exact .cons (sr.zd a hx) (ih hy)
end Rf
end
section
set_option linter.all false
set_option maxRecDepth 100000
set_option maxHeartbeats 4000000
namespace Rf
open PySem PySem.Spec PyProof.Rows L2
theorem int_rmul_listW (a : Int) (t : Tok) (l : Addr) (items : Array Value) (n : Nat) (dd : Option Addr) (sl : Array (Option Value)) :
    Meets (Builtin.«int.__rmul__» ⟨[.int a t, .ref l], []⟩) (fun _ R s => s.heap.get? l = some { cls := .type "list", dict := dd, data := .seq items n, slots := sl } ∧ R (.ok (.ret Value.notImplemented)) s) :=
  .of_wp fun prog w A R s h => by obtain ⟨hp, g, d, tk, os⟩ := s; obtain ⟨hl, h⟩ := h; wp_walk using wpAny_loadPart' hl; exact ⟨_, rfl, h⟩
theorem list_mulW (l : Addr) (items : Array Value) (n : Nat) (dd : Option Addr) (sl : Array (Option Value)) (x : Int) (u : Tok) (hc0 : ¬(!Builtin.List.listFitsIndex x) = true) (hc1 : ¬items.size * x.toNat > (2 ^ 63 - 1) / 8) (hc2 : ¬Builtin.List.listTooLong (items.size * x.toNat) = true) :
    Meets (Builtin.«list.__mul__» ⟨[.ref l, .int x u], []⟩) (fun _ R s => s.heap.get? l = some { cls := .type "list", dict := dd, data := .seq items n, slots := sl } ∧ R (.ok (.ret (Value.ref s.heap.objs.size))) { s with heap := s.heap.push { cls := Value.type "list", data := Data.seq (List.foldl (fun x1 x2 => x1 ++ x2) #[] (List.replicate (if items.isEmpty = true then 0 else x.toNat) items)) }, toks := s.toks }) :=
  .of_wp fun prog w A R s h => by
    obtain ⟨hp, g, d, tk, os⟩ := s; obtain ⟨hl, h⟩ := h
    have hsz := AutoListH.joined_fits hc2
    wp_walk using wpAny_loadPart' hl; refine wpAny_ite_false (decide_eq_false (Nat.not_lt.mpr hsz)) ?_; wp_walk using wpAny_loadPart' hl; exact ⟨_, rfl, h⟩
/-- list * int, over any list that may be read -/
theorem op_repL {X : Cx} : OpR X (binaryOp .Mult) fun x y H Q => ∃ l k xs, x = .ref l ∧ y = .int k ∧ SqL X.K H l xs ∧ -(2 ^ 63) ≤ k ∧ k < 2 ^ 63 ∧ xs.length * k.toNat ≤ sizeLine ∧
    ∀ p, H p = none → Q (.ref p) (upd H p (.lst (List.replicate k.toNat xs).flatten)) := by
  intro pins s σ H x y v u Q I rx ry h
  obtain ⟨l, k, xs, rfl, rfl, hH, h1, h2, hz, q⟩ := h
  cases rx
  obtain ⟨t, rfl⟩ := ry
  obtain ⟨its, r, p1, _⟩ := I.list hH
  have hl := r.length
  obtain ⟨⟨cls, dd, data, sl⟩, e, hc, n, hd⟩ := p1.isList
  simp only at hc hd
  subst hc hd
  have hlen : its.toArray.size * k.toNat ≤ sizeLine := by rw [List.size_toArray, ← hl]; exact hz
  have hcap : ¬ its.toArray.size * k.toNat > (2 ^ 63 - 1) / 8 := by
    have : (sizeLine : Nat) ≤ (2 ^ 63 - 1) / 8 := by decide
    omega
  have hfit : ¬ (!Builtin.List.listFitsIndex k) = true := by
    rw [fitsIndex_both h1 h2]
    exact Bool.false_ne_true
  have hlong : ¬ Builtin.List.listTooLong (its.toArray.size * k.toNat) = true := by
    rw [notLongL hlen]
    exact Bool.false_ne_true
  have hnew : List.foldl (fun x1 x2 => x1 ++ x2) #[] (List.replicate (if its.toArray.isEmpty = true then 0 else k.toNat) its.toArray) = (List.replicate k.toNat its).flatten.toArray := by
    have f0 : ∀ m : Nat, List.foldl (fun x1 x2 => x1 ++ x2) #[] (List.replicate m its.toArray) = (List.replicate m its).flatten.toArray := fun m => by
      have := foldl_rep its m []
      rw [List.nil_append] at this
      exact this
    rw [f0]
    cases its with
    | nil => simp
    | cons a r' => rw [if_neg (by simp)]
  refine wpAny_binaryOp_repeat_ref (T := "list") (U := "int") (by decide) ⟨_, e, rfl⟩ (fun s' => typeIs_int s' k t) noFill_list_mul F.fills_int_mul F.slot_int_rmul repeat_list F.slot_int_index.lookup
    (call_meets F.slot_int_rmul (typeIs_int s k t) F.entry_int_rmul (F.args_int_rmul_2 _ _) (int_rmul_listW k t l its.toArray n dd sl)
      ⟨e, rfl, ⟨_, e, rfl⟩, call_meets F.slot_list_mul ⟨_, e, rfl⟩ F.entry_list_mul (F.args_list_mul_2 _ _) (list_mulW l its.toArray n dd sl k t hfit hcap hlong) ⟨e, ?_⟩⟩)
  rw [hnew]
  exact ⟨.ref _, _, I.lnew (t' := s.toks) (r.rep k.toNat) (by rw [PyProof.Rows.lm_len_rep_flat, Nat.mul_comm]; exact hz), rfl, q _ I.fresh⟩
/-- tuple * 1, () * k: the tuple itself -/
theorem tuple_mul1W (l : Addr) (items : Array Value) (n : Nat) (dd : Option Addr) (sl : Array (Option Value)) (x : Int) (u : Tok) (c0 : (decide (x < -(2 ^ 63)) || decide (x ≥ 2 ^ 63)) = false) (c1 : (items.isEmpty || x == 1) = true) :
    Meets (Builtin.«tuple.__mul__» ⟨[.ref l, .int x u], []⟩) (fun _ R s => s.heap.get? l = some { cls := .type "tuple", dict := dd, data := .seq items n, slots := sl } ∧ R (.ok (.ret (Value.ref l))) s) :=
  .of_wp fun prog w A R s h => by
    obtain ⟨hp, g, d, tk, os⟩ := s
    obtain ⟨hl, h⟩ := h
    have f1 := AutoSeq1.idx_int
    wp_walk using wpAny_loadPart' hl
    repeat (first
      | (refine wpAny_ite_false (decide_eq_false (by rw [c0]; exact Bool.false_ne_true)) ?_; wp_walk using wpAny_loadPart' hl)
      | (refine wpAny_ite_true (decide_eq_true c1) ?_; wp_walk using wpAny_loadPart' hl))
    exact ⟨_, rfl, h⟩
theorem op_rep1 {X : Cx} : OpR X (binaryOp .Mult) fun x y H Q => ∃ l xs, x = .ref l ∧ y = .int 1 ∧ SqT X.K H l xs ∧ Q (.ref l) H := by
  intro pins s σ H x y v u Q I rx ry h
  obtain ⟨l, xs, rfl, rfl, hT, q⟩ := h
  cases rx
  obtain ⟨t, rfl⟩ := ry
  obtain ⟨its, r, ⟨⟨cls, dd, data, sl⟩, ho, hc, n, hd⟩, hs⟩ := I.tuple hT
  simp only at hc hd
  subst hc hd
  exact wpAny_binaryOp_repeat_ref (T := "tuple") (U := "int") (by decide) ⟨_, ho, rfl⟩ (fun s' => typeIs_int s' 1 t) noFill_tuple_mul F.fills_int_mul F.slot_int_rmul repeat_tuple F.slot_int_index.lookup
    (call_meets F.slot_int_rmul (typeIs_int s 1 t) F.entry_int_rmul (F.args_int_rmul_2 _ _) (int_rmul_tuple 1 t l its.toArray n dd sl)
      ⟨ho, rfl, ⟨_, ho, rfl⟩, call_meets F.slot_tuple_mul ⟨_, ho, rfl⟩ F.entry_tuple_mul (F.args_tuple_mul_2 _ _) (tuple_mul1W l its.toArray n dd sl 1 t (by decide) (by simp)) ⟨ho, ⟨.ref l, H, I, rfl, q⟩⟩⟩)
end Rf
end
section
set_option linter.all false
set_option maxRecDepth 100000
set_option maxHeartbeats 1000000
namespace Rf
open PySem PySem.Spec PyProof.Rows L2

/-- what is wanted of a made datum -/
def Made (K : PySem.W.Frag) (C : Addr → Prop) (H : Hp) (dz : D) (Q : VK) : Prop := ∀ v H', (∀ a o, H a = some o → H' a = some o) → Rp K H' C v dz → Q v H'
def rD2 (X : Cx) (g : D → D → Option D) : R2 := fun x y H Q => ∃ C dx dy dz, (∀ a, C a → H a ≠ none) ∧ Rt X.K H C x dx ∧ Rt X.K H C y dy ∧ g dx dy = some dz ∧ Made X.K C H dz Q

section
variable {K : PySem.W.Frag} {C : Addr → Prop} {H : Hp} {Q : VK} {dz : D}
theorem Made.same (h : Made K C H dz Q) {v : V} (r : Rp K H C v dz) : Q v H := h v H (fun _ _ e => e) r
theorem Made.lst {ds : List D} {xs : List V} (h : Made K C H (.list ds) Q) (hC : ∀ a, C a → H a ≠ none) (r : RpAll K H C xs ds) : ∀ p, H p = none → Q (.ref p) (upd H p (.lst xs)) := fun p hp => by
  refine h _ _ (upd_grow hp) (.lst (.inl ⟨.of upd_same, fun q => hC p q hp⟩) (r.mono fun a u q n => ⟨?_, n⟩))
  rcases q with q | ⟨o, q⟩
  · exact .inl (upd_grow hp _ _ q)
  · exact .inr ⟨o, upd_grow hp _ _ q⟩
theorem Made.tup {ds : List D} {xs : List V} (h : Made K C H (.tuple ds) Q) (hC : ∀ a, C a → H a ≠ none) (r : RpAll K H C xs ds) : ∀ p, H p = none → Q (.ref p) (upd H p (.tup xs)) := fun p hp => by
  refine h _ _ (upd_grow hp) (.tup (.inl ⟨.of upd_same, fun q => hC p q hp⟩) (r.mono fun a u q n => ⟨?_, n⟩))
  rcases q with q | ⟨o, q⟩
  · exact .inl (upd_grow hp _ _ q)
  · exact .inr ⟨o, upd_grow hp _ _ q⟩
end

section
variable {X : Cx}

theorem od_int {f : Value → Value → Sem Value} {g : D → D → Option D} {r : Int → Int → Option D} (hg : ∀ x y z, g x y = some z → ∃ i j, x = .int i ∧ y = .int j ∧ r i j = some z)
    (ho : OpR X f fun x y H Q => ∃ i j z, x = .int i ∧ y = .int j ∧ r i j = some z ∧ ∀ v, (∃ k, z = .int k ∧ v = .int k) ∨ (∃ b, z = .bool b ∧ v = .bl b) → Q v H) : OpR X f (rD2 X g) := by
  intro pins s σ H x y v u Q I rx ry h
  obtain ⟨C, dx, dy, dz, hC, hx, hy, hz, q⟩ := h
  obtain ⟨i, j, rfl, rfl, e⟩ := hg _ _ _ hz
  obtain rfl := hx.int
  obtain rfl := hy.int
  refine ho pins s σ H _ _ v u Q I rx ry ⟨i, j, dz, rfl, rfl, e, fun v hv => ?_⟩
  rcases hv with ⟨k, rfl, rfl⟩ | ⟨b, rfl, rfl⟩
  · exact q.same (.int k)
  · exact q.same (.bl b)

/-- list + list, over any lists that may be read -/
theorem op_catL : OpR X (binaryOp .Add) fun x y H Q => ∃ l b xs zs, x = .ref l ∧ y = .ref b ∧ SqL X.K H l xs ∧ SqL X.K H b zs ∧ xs.length + zs.length ≤ sizeLine ∧ ∀ p, H p = none → Q (.ref p) (upd H p (.lst (xs ++ zs))) := by
  intro pins s σ H x y v u Q I rx ry h
  obtain ⟨l, b, xs, zs, rfl, rfl, hH, hB, hz, q⟩ := h
  cases rx
  cases ry
  obtain ⟨vs, r, p1, _⟩ := I.list hH
  obtain ⟨ws, r2, p2, _⟩ := I.list hB
  have l1 := r.length
  have l2 := r2.length
  obtain ⟨⟨cls, dd, data, sl⟩, ho, hc, n, hd⟩ := p1.isList
  obtain ⟨⟨cls2, dd2, data2, sl2⟩, ho2, hc2, n2, hd2⟩ := p2.isList
  simp only at hc hd hc2 hd2
  subst hc hd hc2 hd2
  have e : vs.toArray ++ ws.toArray = (vs ++ ws).toArray := by simp
  refine concat_meets ⟨_, ho, rfl⟩ ⟨_, ho2, rfl⟩ noFill_list_add seq_list_add PySem.F.slot_list_add PySem.F.entry_list_add (PySem.F.args_list_add_2 _ _) (list_addW l b vs.toArray ws.toArray n n2 dd dd2 sl sl2 (by simp only [List.size_toArray]; omega)) ⟨ho, ho2, ?_⟩
  rw [e]
  exact ⟨.ref _, _, I.lnew (t' := s.toks) (r.append r2) (by rw [List.length_append]; omega), rfl, q _ I.fresh⟩

theorem od_add : OpR X (binaryOp .Add) (rD2 X sAdd) := by
  intro pins s σ H x y v u Q I rx ry h
  obtain ⟨C, dx, dy, dz, hC, hx, hy, hz, q⟩ := h
  unfold sAdd at hz
  split at hz
  · obtain rfl := Option.some.inj hz
    obtain rfl := hx.int
    obtain rfl := hy.int
    exact op_add pins s σ H _ _ v u Q I rx ry ⟨_, _, rfl, rfl, q.same (.int _)⟩
  · split at hz
    · rename_i hl
      obtain rfl := Option.some.inj hz
      obtain ⟨rfl, _⟩ := hx.str
      obtain ⟨rfl, _⟩ := hy.str
      exact op_add_str pins s σ H _ _ v u Q I rx ry ⟨_, _, rfl, rfl, hl, q.same (.str _ (by
        show (Array.size (Str.cps _ ++ Str.cps _)) ≤ _
        rw [Array.size_append]; exact hl))⟩
    · cases hz
  · split at hz
    · rename_i hl
      obtain rfl := Option.some.inj hz
      obtain ⟨a, xs, rfl, sa, ra⟩ := hx.list
      obtain ⟨b, ys, rfl, sb, rb⟩ := hy.list
      exact op_catL pins s σ H _ _ v u Q I rx ry ⟨a, b, xs, ys, rfl, rfl, sa, sb, by rw [ra.length, rb.length]; exact hl, q.lst hC (ra.append rb)⟩
    · cases hz
  · split at hz
    · rename_i hl
      obtain rfl := Option.some.inj hz
      obtain ⟨a, xs, rfl, sa, ra, pa⟩ := hx.tuple
      obtain ⟨b, ys, rfl, sb, rb, pb⟩ := hy.tuple
      refine op_catA pins s σ H _ _ v u Q I rx ry ⟨a, b, xs, ys, rfl, rfl, sa, sb, by rw [ra.length, rb.length]; exact hl, fun e => ?_, fun _ e => ?_, fun _ _ => q.tup hC (ra.append rb)⟩
      · subst e
        cases ra
        exact q.same pb
      · subst e
        cases rb
        rw [List.append_nil] at q
        exact q.same pa
    · cases hz
  · cases hz

theorem od_sub : OpR X (binaryOp .Sub) (rD2 X sSub) := by
  intro pins s σ H x y v u Q I rx ry h
  obtain ⟨C, dx, dy, dz, hC, hx, hy, hz, q⟩ := h
  unfold sSub at hz
  split at hz
  · obtain rfl := Option.some.inj hz
    obtain rfl := hx.int
    obtain rfl := hy.int
    exact op_sub pins s σ H _ _ v u Q I rx ry ⟨_, _, rfl, rfl, q.same (.int _)⟩
  · cases hz
theorem mulOk_of {i j : Int} (h : mulOk i j = true) : CMul i j := by
  unfold mulOk at h
  simp only [Bool.or_eq_true, Bool.and_eq_true, decide_eq_true_eq] at h
  exact h
theorem od_fdiv : OpR X (binaryOp .FloorDiv) (rD2 X sFdiv) := by
  intro pins s σ H x y v u Q I rx ry h
  obtain ⟨C, dx, dy, dz, hC, hx, hy, hz, q⟩ := h
  unfold sFdiv at hz
  split at hz
  · split at hz
    · rename_i hl
      simp only [Bool.and_eq_true, decide_eq_true_eq] at hl
      obtain rfl := Option.some.inj hz
      obtain rfl := hx.int
      obtain rfl := hy.int
      exact op_fdiv pins s σ H _ _ v u Q I rx ry ⟨_, _, rfl, rfl, hl, q.same (.int _)⟩
    · cases hz
  · cases hz
theorem od_mod : OpR X (binaryOp .Mod) (rD2 X sMod) := by
  intro pins s σ H x y v u Q I rx ry h
  obtain ⟨C, dx, dy, dz, hC, hx, hy, hz, q⟩ := h
  unfold sMod at hz
  split at hz
  · split at hz
    · rename_i hl
      obtain rfl := Option.some.inj hz
      obtain rfl := hx.int
      obtain rfl := hy.int
      exact op_mod pins s σ H _ _ v u Q I rx ry ⟨_, _, rfl, rfl, of_decide_eq_true hl, q.same (.int _)⟩
    · cases hz
  · cases hz

theorem units_of {k : Nat} (hr : Room k X.A) : X.A.units + 200 < cLine := by have := hr.un; omega
theorem oB_of {o : Option Bool} {d : D} (h : oB o = some d) : ∃ b, o = some b ∧ d = .bool b := by
  cases o with
  | none => cases h
  | some b => exact ⟨b, rfl, (Option.some.inj h).symm⟩
theorem sEqB_of {a b : D} {k : Bool} (h : sEqB a b = some k) : a.plain = true ∧ b.plain = true ∧ min a.depth b.depth ≤ 100 ∧ PyData.eqv a b = k := by
  unfold sEqB at h
  split at h
  · rename_i hl
    simp only [Bool.and_eq_true, decide_eq_true_eq] at hl
    exact ⟨hl.1.1, hl.1.2, hl.2, Option.some.inj h⟩
  · cases h
theorem od_eq {k : Nat} (hr : Room k X.A) : OpR X (compareOp .Eq) (rD2 X fun a b => oB (sEqB a b)) := by
  intro pins s σ H x y v u Q I rx ry h
  obtain ⟨C, dx, dy, dz, hC, hx, hy, hz, q⟩ := h
  obtain ⟨b, hb, rfl⟩ := oB_of hz
  obtain ⟨p1, p2, hd, rfl⟩ := sEqB_of hb
  obtain ⟨as, r1⟩ := Dp.reads I dx x v (hx.dp p1) rx
  obtain ⟨bs, r2⟩ := Dp.reads I dy y u (hy.dp p2) ry
  have hu := units_of hr
  exact SeqAt.eq_plain r1 r2 p1 p2 (by omega) ⟨.bl _, H, I, rfl, q.same (.bl _)⟩
theorem od_ne {k : Nat} (hr : Room k X.A) : OpR X (compareOp .NotEq) (rD2 X fun a b => oB ((sEqB a b).map not)) := by
  intro pins s σ H x y v u Q I rx ry h
  obtain ⟨C, dx, dy, dz, hC, hx, hy, hz, q⟩ := h
  obtain ⟨b, hb, rfl⟩ := oB_of hz
  obtain ⟨b', hb', rfl⟩ := Option.map_eq_some_iff.mp hb
  obtain ⟨p1, p2, hd, rfl⟩ := sEqB_of hb'
  obtain ⟨as, r1⟩ := Dp.reads I dx x v (hx.dp p1) rx
  obtain ⟨bs, r2⟩ := Dp.reads I dy y u (hy.dp p2) ry
  have hu := units_of hr
  exact SeqAt.ne_plain r1 r2 p1 p2 (by omega) ⟨.bl _, H, I, rfl, q.same (.bl _)⟩
theorem sLtB_of {a b : D} {k : Bool} (h : sLtB a b = some k) : (∃ i j, a = .int i ∧ b = .int j ∧ decide (i < j) = k) ∨ ∃ x y, a = .str x ∧ b = .str y ∧ decide (x.cps.toList < y.cps.toList) = k := by
  unfold sLtB at h
  split at h
  · exact .inl ⟨_, _, rfl, rfl, Option.some.inj h⟩
  · exact .inr ⟨_, _, rfl, rfl, Option.some.inj h⟩
  · cases h
theorem sLeB_of {a b : D} {k : Bool} (h : sLeB a b = some k) : (∃ i j, a = .int i ∧ b = .int j ∧ decide (i ≤ j) = k) ∨ ∃ x y, a = .str x ∧ b = .str y ∧ decide (x.cps.toList ≤ y.cps.toList) = k := by
  unfold sLeB at h
  split at h
  · exact .inl ⟨_, _, rfl, rfl, Option.some.inj h⟩
  · exact .inr ⟨_, _, rfl, rfl, Option.some.inj h⟩
  · cases h
theorem not_lt_list (x y : List Nat) : (!decide (y < x)) = decide (x ≤ y) := by
  by_cases h : y < x
  · rw [decide_eq_true h, decide_eq_false (List.not_le.mpr h)]; rfl
  · rw [decide_eq_false h, decide_eq_true (List.not_lt.mp h)]; rfl
theorem od_lt : OpR X (compareOp .Lt) (rD2 X fun a b => oB (sLtB a b)) := by
  intro pins s σ H x y v u Q I rx ry h
  obtain ⟨C, dx, dy, dz, hC, hx, hy, hz, q⟩ := h
  obtain ⟨b, hb, rfl⟩ := oB_of hz
  rcases sLtB_of hb with ⟨i, j, rfl, rfl, rfl⟩ | ⟨i, j, rfl, rfl, rfl⟩
  · obtain rfl := hx.int
    obtain rfl := hy.int
    exact op_lt pins s σ H _ _ v u Q I rx ry ⟨_, _, rfl, rfl, q.same (.bl _)⟩
  · obtain ⟨rfl, _⟩ := hx.str
    obtain ⟨rfl, _⟩ := hy.str
    exact op_lt_str pins s σ H _ _ v u Q I rx ry ⟨_, _, rfl, rfl, q.same (.bl _)⟩
theorem od_gt : OpR X (compareOp .Gt) (rD2 X fun a b => oB (sLtB b a)) := by
  intro pins s σ H x y v u Q I rx ry h
  obtain ⟨C, dx, dy, dz, hC, hx, hy, hz, q⟩ := h
  obtain ⟨b, hb, rfl⟩ := oB_of hz
  rcases sLtB_of hb with ⟨i, j, rfl, rfl, rfl⟩ | ⟨i, j, rfl, rfl, rfl⟩
  · obtain rfl := hx.int
    obtain rfl := hy.int
    exact op_gt pins s σ H _ _ v u Q I rx ry ⟨_, _, rfl, rfl, q.same (.bl _)⟩
  · obtain ⟨rfl, _⟩ := hx.str
    obtain ⟨rfl, _⟩ := hy.str
    exact op_gt_str pins s σ H _ _ v u Q I rx ry ⟨_, _, rfl, rfl, q.same (.bl _)⟩
theorem od_le : OpR X (compareOp .LtE) (rD2 X fun a b => oB (sLeB a b)) := by
  intro pins s σ H x y v u Q I rx ry h
  obtain ⟨C, dx, dy, dz, hC, hx, hy, hz, q⟩ := h
  obtain ⟨b, hb, rfl⟩ := oB_of hz
  rcases sLeB_of hb with ⟨i, j, rfl, rfl, rfl⟩ | ⟨i, j, rfl, rfl, rfl⟩
  · obtain rfl := hx.int
    obtain rfl := hy.int
    exact op_le pins s σ H _ _ v u Q I rx ry ⟨_, _, rfl, rfl, q.same (.bl _)⟩
  · obtain ⟨rfl, _⟩ := hx.str
    obtain ⟨rfl, _⟩ := hy.str
    exact op_le_str pins s σ H _ _ v u Q I rx ry ⟨_, _, rfl, rfl, by rw [not_lt_list]; exact q.same (.bl _)⟩
theorem od_ge : OpR X (compareOp .GtE) (rD2 X fun a b => oB (sLeB b a)) := by
  intro pins s σ H x y v u Q I rx ry h
  obtain ⟨C, dx, dy, dz, hC, hx, hy, hz, q⟩ := h
  obtain ⟨b, hb, rfl⟩ := oB_of hz
  rcases sLeB_of hb with ⟨i, j, rfl, rfl, rfl⟩ | ⟨i, j, rfl, rfl, rfl⟩
  · obtain rfl := hx.int
    obtain rfl := hy.int
    exact op_ge pins s σ H _ _ v u Q I rx ry ⟨_, _, rfl, rfl, q.same (.bl _)⟩
  · obtain ⟨rfl, _⟩ := hx.str
    obtain ⟨rfl, _⟩ := hy.str
    exact op_ge_str pins s σ H _ _ v u Q I rx ry ⟨_, _, rfl, rfl, by rw [not_lt_list]; exact q.same (.bl _)⟩
theorem isNone_of {H : Hp} {C : Addr → Prop} {x : V} {d : D} (h : Rt X.K H C x d) : isNone d = decide (x = .non) := by
  cases h with
  | rp h => cases h <;> simp [isNone]
  | lst _ _ => simp [isNone]
  | dK _ _ => simp [isNone]
theorem od_is : OpR X (compareOp .Is) (rD2 X fun a b => if isNone b then some (.bool (isNone a)) else none) := by
  intro pins s σ H x y v u Q I rx ry h
  obtain ⟨C, dx, dy, dz, hC, hx, hy, hz, q⟩ := h
  dsimp only at hz
  split at hz
  · rename_i hn
    obtain rfl := Option.some.inj hz
    rw [isNone_of hy] at hn
    refine op_isN pins s σ H _ _ v u Q I rx ry ⟨of_decide_eq_true hn, ?_⟩
    rw [← isNone_of hx]
    exact q.same (.bl _)
  · cases hz
theorem od_isnt : OpR X (compareOp .IsNot) (rD2 X fun a b => if isNone b then some (.bool (!isNone a)) else none) := by
  intro pins s σ H x y v u Q I rx ry h
  obtain ⟨C, dx, dy, dz, hC, hx, hy, hz, q⟩ := h
  dsimp only at hz
  split at hz
  · rename_i hn
    obtain rfl := Option.some.inj hz
    rw [isNone_of hy] at hn
    refine op_notN pins s σ H _ _ v u Q I rx ry ⟨of_decide_eq_true hn, ?_⟩
    rw [← isNone_of hx]
    exact q.same (.bl _)
  · cases hz
theorem in_data (neg : Bool) {k : Nat} (hr : Room k X.A) {b : Bool} {dx dy : D} {x y : V} {v u : Value} {H : Hp} {C : Addr → Prop} {Q : VK} {pins : List (Addr × Obj)} {s : Shared} {σ : L2.St} (I : Inv X pins σ H s) (rx : RelV x v) (ry : RelV y u)
    (hx : Rt X.K H C x dx) (hy : Rt X.K H C y dy) (h : sInB dx dy = some b) (q : Q (.bl (if neg then !b else b)) H) : wpAny (model X.prog X.w) X.A (compareOp (if neg then .NotIn else .In) v u) (EP X pins σ Q) X.xe s := by
  have hu := units_of hr
  unfold sInB at h
  split at h
  · obtain ⟨bs, r2⟩ := Dp.reads I _ y u (hy.dp' fun _ => nofun) ry
    split at h
    · rename_i hl
      obtain ⟨hl1, hl2⟩ := Bool.and_eq_true_iff.mp hl
      obtain ⟨hl3, hl4⟩ := Bool.and_eq_true_iff.mp hl1
      obtain ⟨as, r1⟩ := Dp.reads I dx x v (hx.dp hl3) rx
      have hl5 := of_decide_eq_true hl2
      unfold depthLine at hl5
      obtain rfl := Option.some.inj h
      cases neg with
      | false => exact SeqAt.in_list_data r2 r1 hl4 hl3 (by omega) ⟨.bl _, H, I, rfl, q⟩
      | true => exact SeqAt.notIn_list_data r2 r1 hl4 hl3 (by omega) ⟨.bl _, H, I, rfl, q⟩
    · cases h
  · obtain ⟨bs, r2⟩ := Dp.reads I _ y u (hy.dp' fun _ => nofun) ry
    split at h
    · rename_i hl
      obtain ⟨hl1, hl2⟩ := Bool.and_eq_true_iff.mp hl
      obtain ⟨hl3, hl4⟩ := Bool.and_eq_true_iff.mp hl1
      obtain ⟨as, r1⟩ := Dp.reads I dx x v (hx.dp hl3) rx
      have hl5 := of_decide_eq_true hl2
      unfold depthLine at hl5
      obtain rfl := Option.some.inj h
      cases neg with
      | false => exact SeqAt.in_tuple_data r2 r1 hl4 hl3 (by omega) ⟨.bl _, H, I, rfl, q⟩
      | true => exact SeqAt.notIn_tuple_data r2 r1 hl4 hl3 (by omega) ⟨.bl _, H, I, rfl, q⟩
    · cases h
  · obtain rfl := Option.some.inj h
    obtain ⟨rfl, _⟩ := hx.str
    obtain ⟨rfl, _⟩ := hy.str
    cases neg with
    | false => exact op_in_str pins s σ H _ _ v u Q I rx ry ⟨_, _, rfl, rfl, q⟩
    | true => exact op_notin_str pins s σ H _ _ v u Q I rx ry ⟨_, _, rfl, rfl, q⟩
  · obtain ⟨k0, hk, h⟩ := Option.bind_eq_some_iff.mp h
    obtain ⟨ds', hds, rfl⟩ := Option.map_eq_some_iff.mp h
    obtain ⟨a, vs, ds, rfl, hrd, rkv, rfl⟩ := hy.dict
    rw [dKs_kvD] at hds
    obtain rfl := Option.some.inj hds
    obtain rfl := hx.key hk
    cases ry
    have g : DGet H a (kV k0) (valV vs k0) := .inl ⟨vs, k0, .of hrd, rfl, rfl⟩
    have es : (valV vs k0).isSome = (vGet ds k0).isSome := (rkv.get k0).some_eq
    cases neg with
    | false => exact d_in (by omega) I g rx fun s' I' => ⟨.bl _, H, I', rfl, by rw [es]; exact q⟩
    | true => exact d_notIn (by omega) I g rx fun s' I' => ⟨.bl _, H, I', rfl, by rw [es]; exact q⟩
  · cases h
theorem od_in {k : Nat} (hr : Room k X.A) : OpR X (compareOp .In) (rD2 X fun a b => oB (sInB a b)) := by
  intro pins s σ H x y v u Q I rx ry h
  obtain ⟨C, dx, dy, dz, hC, hx, hy, hz, q⟩ := h
  obtain ⟨b, hb, rfl⟩ := oB_of hz
  exact in_data false hr I rx ry hx hy hb (q.same (.bl b))
theorem od_nin {k : Nat} (hr : Room k X.A) : OpR X (compareOp .NotIn) (rD2 X fun a b => oB ((sInB a b).map not)) := by
  intro pins s σ H x y v u Q I rx ry h
  obtain ⟨C, dx, dy, dz, hC, hx, hy, hz, q⟩ := h
  obtain ⟨b, hb, rfl⟩ := oB_of hz
  obtain ⟨b', hb', rfl⟩ := Option.map_eq_some_iff.mp hb
  exact in_data true hr I rx ry hx hy hb' (q.same (.bl _))
end
end Rf
namespace Rf
open PySem PySem.Spec PyProof.Rows L2
section
variable {X : Cx}
theorem od_mul : OpR X (binaryOp .Mult) (rD2 X sMul) := by
  intro pins s σ H x y v u Q I rx ry h
  obtain ⟨C, dx, dy, dz, hC, hx, hy, hz, q⟩ := h
  unfold sMul at hz
  split at hz
  · split at hz
    · rename_i hl
      obtain rfl := Option.some.inj hz
      obtain rfl := hx.int
      obtain rfl := hy.int
      exact op_mul pins s σ H _ _ v u Q I rx ry ⟨_, _, rfl, rfl, mulOk_of hl, q.same (.int _)⟩
    · cases hz
  · split at hz
    · rename_i hl
      simp only [Bool.and_eq_true, decide_eq_true_eq] at hl
      obtain rfl := Option.some.inj hz
      obtain ⟨a, xs, rfl, sa, ra⟩ := hx.list
      obtain rfl := hy.int
      exact op_repL pins s σ H _ _ v u Q I rx ry ⟨a, _, xs, rfl, rfl, sa, hl.1.1, hl.1.2, by rw [ra.length]; exact hl.2, q.lst hC (ra.flatten _)⟩
    · cases hz
  · obtain ⟨a, xs, rfl, sa, ra, pa⟩ := hx.tuple
    obtain rfl := hy.int
    split at hz
    · rename_i hl
      obtain rfl := of_decide_eq_true hl
      obtain rfl := Option.some.inj hz
      exact op_rep1 pins s σ H _ _ v u Q I rx ry ⟨a, xs, rfl, rfl, sa, q.same pa⟩
    · split at hz
      · rename_i hl
        simp only [Bool.and_eq_true, Bool.not_eq_true', decide_eq_true_eq] at hl
        obtain rfl := Option.some.inj hz
        refine op_repT pins s σ H _ _ v u Q I rx ry ⟨a, _, xs, rfl, rfl, sa, fun e => ?_, hl.1.1.2, hl.1.2, by rw [ra.length]; exact hl.2, q.tup hC (ra.flatten _)⟩
        subst e
        cases ra
        simp at hl
      · cases hz
  · cases hz

def binO : O2 → Operator → Bool
  | .add, .Add => true
  | .sub, .Sub => true
  | .mul, .Mult => true
  | .fdiv, .FloorDiv => true
  | .mod, .Mod => true
  | _, _ => false
def cmpO : O2 → CmpOp → Bool
  | .eq, .Eq => true
  | .ne, .NotEq => true
  | .lt, .Lt => true
  | .le, .LtE => true
  | .gt, .Gt => true
  | .ge, .GtE => true
  | .is_, .Is => true
  | .isnt, .IsNot => true
  | .in_, .In => true
  | .nin, .NotIn => true
  | _, _ => false
theorem bin_ok : ∀ {o : O2} {p : Operator}, binO o p = true → OpR X (binaryOp p) (rD2 X (sem2 o))
  | .add, .Add, _ => od_add
  | .sub, .Sub, _ => od_sub
  | .mul, .Mult, _ => od_mul
  | .fdiv, .FloorDiv, _ => od_fdiv
  | .mod, .Mod, _ => od_mod
theorem cmp_ok {k : Nat} (hr : Room k X.A) : ∀ {o : O2} {p : CmpOp}, cmpO o p = true → OpR X (compareOp p) (rD2 X (sem2 o))
  | .eq, .Eq, _ => od_eq hr
  | .ne, .NotEq, _ => od_ne hr
  | .lt, .Lt, _ => od_lt
  | .le, .LtE, _ => od_le
  | .gt, .Gt, _ => od_gt
  | .ge, .GtE, _ => od_ge
  | .is_, .Is, _ => od_is
  | .isnt, .IsNot, _ => od_isnt
  | .in_, .In, _ => od_in hr
  | .nin, .NotIn, _ => od_nin hr

def rDn (X : Cx) (g : List D → Option D) : List V → Hp → VK → Prop := fun xs H Q => ∃ C ds dz, (∀ a, C a → H a ≠ none) ∧ RtAll X.K H C xs ds ∧ g ds = some dz ∧ Made X.K C H dz Q
theorem RtAll.one {K : PySem.W.Frag} {H : Hp} {C : Addr → Prop} {vs : List V} {d : D} (h : RtAll K H C vs [d]) : ∃ v, vs = [v] ∧ Rt K H C v d := by
  cases h with | cons a r => cases r; exact ⟨_, rfl, a⟩
theorem RtAll.two {K : PySem.W.Frag} {H : Hp} {C : Addr → Prop} {vs : List V} {d e : D} (h : RtAll K H C vs [d, e]) : ∃ v u, vs = [v, u] ∧ Rt K H C v d ∧ Rt K H C u e := by
  cases h with | cons a r => cases r with | cons b r => cases r; exact ⟨_, _, rfl, a, b⟩

theorem cd_len : CallR X (.builtin "len") (rDn X bLen) := by
  intro pins s σ H xs us Q I r h
  obtain ⟨C, ds, dz, hC, hx, hz, q⟩ := h
  unfold bLen at hz
  split at hz
  · obtain rfl := Option.some.inj hz
    obtain ⟨v, rfl, rv⟩ := hx.one
    obtain ⟨a, xs, rfl, sa, ra⟩ := rv.list
    exact call_len pins s σ H _ us Q I r ⟨_, xs.length, rfl, .inl ⟨xs, sa, rfl⟩, by rw [ra.length]; exact q.same (.int _)⟩
  · obtain rfl := Option.some.inj hz
    obtain ⟨v, rfl, rv⟩ := hx.one
    obtain ⟨a, xs, rfl, sa, ra, _⟩ := rv.tuple
    exact call_len pins s σ H _ us Q I r ⟨_, xs.length, rfl, .inr ⟨xs, sa, rfl⟩, by rw [ra.length]; exact q.same (.int _)⟩
  · obtain rfl := Option.some.inj hz
    obtain ⟨v, rfl, rv⟩ := hx.one
    obtain ⟨rfl, hl⟩ := rv.str
    exact call_len pins s σ H _ us Q I r ⟨_, _, rfl, ⟨hl, rfl⟩, q.same (.int _)⟩
  · obtain rfl := Option.some.inj hz
    obtain ⟨v, rfl, rv⟩ := hx.one
    obtain ⟨a, vs, ds, rfl, hrd, rkv, rfl⟩ := rv.dict
    obtain ⟨u, rfl, ru⟩ := vals1 r
    cases ru
    refine d_len I (.of hrd) fun t s' I' => ⟨.int vs.length, H, I', ⟨t, rfl⟩, ?_⟩
    rw [show vs.length = (kvD ds).length by rw [rkv.length]; unfold kvD; rw [List.length_map]]
    exact q.same (.int _)
  · cases hz
theorem cd_abs : CallR X (.builtin "abs") (rDn X bAbs) := by
  intro pins s σ H xs us Q I r h
  obtain ⟨C, ds, dz, hC, hx, hz, q⟩ := h
  unfold bAbs at hz
  split at hz
  · obtain rfl := Option.some.inj hz
    obtain ⟨v, rfl, rv⟩ := hx.one
    obtain rfl := rv.int
    exact call_abs pins s σ H _ us Q I r ⟨_, rfl, q.same (.int _)⟩
  · cases hz
theorem cd_str : CallR X (.type "str") (rDn X bStr) := by
  intro pins s σ H xs us Q I r h
  obtain ⟨C, ds, dz, hC, hx, hz, q⟩ := h
  unfold bStr at hz
  split at hz
  · split at hz
    · rename_i hl
      obtain rfl := Option.some.inj hz
      obtain ⟨v, rfl, rv⟩ := hx.one
      obtain rfl := rv.int
      exact call_str_int pins s σ H _ us Q I r ⟨_, rfl, hl.1, q.same (.str _ hl.2)⟩
    · cases hz
  · obtain rfl := Option.some.inj hz
    obtain ⟨v, rfl, rv⟩ := hx.one
    obtain ⟨rfl, hl⟩ := rv.str
    exact SkE.call_str_str pins s σ H _ us Q I r ⟨_, rfl, q.same (.str _ hl)⟩
  · cases hz
theorem cd_max2 (hc : X.calm = true) : CallR X (.builtin "max") (rDn X bMax2) := by
  intro pins s σ H xs us Q I r h
  obtain ⟨C, ds, dz, hC, hx, hz, q⟩ := h
  unfold bMax2 at hz
  split at hz
  · obtain rfl := Option.some.inj hz
    obtain ⟨v, u, rfl, rv, ru⟩ := hx.two
    obtain rfl := rv.int
    obtain rfl := ru.int
    exact call_max2 hc pins s σ H _ us Q I r ⟨_, _, rfl, q.same (.int _)⟩
  · cases hz
theorem cd_int : CallR X (.type "int") (rDn X bInt) := by
  intro pins s σ H xs us Q I r h
  obtain ⟨C, ds, dz, hC, hx, hz, q⟩ := h
  unfold bInt at hz
  split at hz
  · obtain rfl := Option.some.inj hz
    obtain ⟨v, rfl, rv⟩ := hx.one
    obtain rfl := rv.int
    exact call_int1 pins s σ H _ us Q I r (.inl ⟨_, rfl, q.same (.int _)⟩)
  · obtain rfl := Option.some.inj hz
    obtain ⟨v, rfl, rv⟩ := hx.one
    obtain rfl := rv.bl
    exact call_int1 pins s σ H _ us Q I r (.inr ⟨_, rfl, q.same (.int _)⟩)
  · cases hz
theorem cd_tuple : CallR X (.type "tuple") (rDn X bTuple) := by
  intro pins s σ H xs us Q I r h
  obtain ⟨C, ds, dz, hC, hx, hz, q⟩ := h
  unfold bTuple at hz
  split at hz
  · obtain rfl := Option.some.inj hz
    obtain ⟨v, rfl, rv⟩ := hx.one
    obtain ⟨a, xs, rfl, sa, ra⟩ := rv.list
    exact call_tuple_of pins s σ H _ us Q I r ⟨_, xs, rfl, .inl ⟨sa, q.tup hC ra⟩⟩
  · obtain rfl := Option.some.inj hz
    obtain ⟨v, rfl, rv⟩ := hx.one
    obtain ⟨a, xs, rfl, sa, ra, pa⟩ := rv.tuple
    exact call_tuple_of pins s σ H _ us Q I r ⟨_, xs, rfl, .inr ⟨sa, q.same pa⟩⟩
  · cases hz
theorem cd_list : CallR X (.type "list") (rDn X bList) := by
  intro pins s σ H xs us Q I r h
  obtain ⟨C, ds, dz, hC, hx, hz, q⟩ := h
  unfold bList at hz
  split at hz
  · obtain rfl := Option.some.inj hz
    obtain ⟨v, rfl, rv⟩ := hx.one
    obtain ⟨a, xs, rfl, sa, ra⟩ := rv.list
    exact call_list_of pins s σ H _ us Q I r ⟨_, xs, rfl, .inl sa, q.lst hC ra⟩
  · obtain rfl := Option.some.inj hz
    obtain ⟨v, rfl, rv⟩ := hx.one
    obtain ⟨a, xs, rfl, sa, ra, pa⟩ := rv.tuple
    exact call_list_of pins s σ H _ us Q I r ⟨_, xs, rfl, .inr sa, q.lst hC ra⟩
  · cases hz
theorem rp_ints {K : PySem.W.Frag} {H : Hp} {C : Addr → Prop} : ∀ {ds : List D} {ns : List Int} {vs : List V}, intsOf ds = some ns → RpAll K H C vs ds → vs = ns.map V.int
  | [], _, _, h, r => by obtain rfl := Option.some.inj h; cases r; rfl
  | .int i :: ds, _, _, h, r => by
    obtain ⟨ms, hm, rfl⟩ := Option.map_eq_some_iff.mp (show (intsOf ds).map (i :: ·) = some _ from h)
    cases r with | cons a t => cases a; rw [rp_ints hm t]; rfl
  | .none :: _, _, _, h, _ => by cases h
  | .bool _ :: _, _, _, h, _ => by cases h
  | .str _ :: _, _, _, h, _ => by cases h
  | .list _ :: _, _, _, h, _ => by cases h
  | .tuple _ :: _, _, _, h, _ => by cases h
  | .dict _ :: _, _, _, h, _ => by cases h
theorem rp_bools {K : PySem.W.Frag} {H : Hp} {C : Addr → Prop} : ∀ {ds : List D} {ns : List Bool} {vs : List V}, boolsOf ds = some ns → RpAll K H C vs ds → vs = ns.map V.bl
  | [], _, _, h, r => by obtain rfl := Option.some.inj h; cases r; rfl
  | .bool i :: ds, _, _, h, r => by
    obtain ⟨ms, hm, rfl⟩ := Option.map_eq_some_iff.mp (show (boolsOf ds).map (i :: ·) = some _ from h)
    cases r with | cons a t => cases a; rw [rp_bools hm t]; rfl
  | .none :: _, _, _, h, _ => by cases h
  | .int _ :: _, _, _, h, _ => by cases h
  | .str _ :: _, _, _, h, _ => by cases h
  | .list _ :: _, _, _, h, _ => by cases h
  | .tuple _ :: _, _, _, h, _ => by cases h
  | .dict _ :: _, _, _, h, _ => by cases h
theorem cd_all (hc : X.calm = true) : CallR X (.builtin "all") (rDn X bAll) := by
  intro pins s σ H xs us Q I r h
  obtain ⟨C, ds, dz, hC, hx, hz, q⟩ := h
  unfold bAll at hz
  split at hz
  · obtain ⟨bs, hb, rfl⟩ := Option.map_eq_some_iff.mp hz
    obtain ⟨v, rfl, rv⟩ := hx.one
    obtain ⟨a, xs, rfl, sa, ra⟩ := rv.list
    rw [rp_bools hb ra] at sa
    exact cr_all hc pins s σ H _ us Q I r ⟨a, bs, rfl, sa, q.same (.bl _)⟩
  · cases hz
theorem cd_any (hc : X.calm = true) : CallR X (.builtin "any") (rDn X bAny) := by
  intro pins s σ H xs us Q I r h
  obtain ⟨C, ds, dz, hC, hx, hz, q⟩ := h
  unfold bAny at hz
  split at hz
  · obtain ⟨bs, hb, rfl⟩ := Option.map_eq_some_iff.mp hz
    obtain ⟨v, rfl, rv⟩ := hx.one
    obtain ⟨a, xs, rfl, sa, ra⟩ := rv.list
    rw [rp_bools hb ra] at sa
    exact cr_any hc pins s σ H _ us Q I r ⟨a, bs, rfl, sa, q.same (.bl _)⟩
  · cases hz
theorem alikeB_of {xs : List D} (h : alikeB xs = true) : PySem.W.AlikeAll xs ∧ PyData.depthAll xs ≤ 100 := by
  unfold alikeB at h
  obtain ⟨h1, h2⟩ := Bool.and_eq_true_iff.mp h
  obtain ⟨h3, h4⟩ := Bool.and_eq_true_iff.mp h1
  have h5 := of_decide_eq_true h2
  refine ⟨⟨fun x hx y hy => ?_, fun x hx e => ?_⟩, h5⟩
  · exact List.all_eq_true.mp (List.all_eq_true.mp h3 x hx) y hy
  · have := List.all_eq_true.mp h4 x hx
    rw [e] at this
    cases this
theorem dpAll_of {K : PySem.W.Frag} {H : Hp} {C : Addr → Prop} {v : V} {ds : List D} (h : Rt K H C v (.list ds)) : Dp K H v (.list ds) := h.dp' fun _ => nofun
theorem minD_mem : ∀ (xs : List D) (x : D), PySem.W.minD x xs ∈ x :: xs
  | [], x => List.mem_cons_self
  | y :: ys, x => by
    show PySem.W.minD (if PySem.W.dataLt y x then y else x) ys ∈ _
    have := minD_mem ys (if PySem.W.dataLt y x then y else x)
    rcases List.mem_cons.mp this with e | e
    · rw [e]; split
      · exact List.mem_cons_of_mem _ List.mem_cons_self
      · exact List.mem_cons_self
    · exact List.mem_cons_of_mem _ (List.mem_cons_of_mem _ e)
theorem maxD_mem : ∀ (xs : List D) (x : D), PySem.W.maxD x xs ∈ x :: xs
  | [], x => List.mem_cons_self
  | y :: ys, x => by
    show PySem.W.maxD (if PySem.W.dataLt x y then y else x) ys ∈ _
    have := maxD_mem ys (if PySem.W.dataLt x y then y else x)
    rcases List.mem_cons.mp this with e | e
    · rw [e]; split
      · exact List.mem_cons_of_mem _ List.mem_cons_self
      · exact List.mem_cons_self
    · exact List.mem_cons_of_mem _ (List.mem_cons_of_mem _ e)
theorem rp_of_reads {pins : List (Addr × Obj)} {s : Shared} {σ : L2.St} {H : Hp} {C : Addr → Prop} {h' : Heap} {i : Nat} {v : Value} {d : D} {bs : List Addr} {ds : List D} {xs : List V} {its : List Value} (I : Inv X pins σ H s) (r : RpAll X.K H C xs ds) (rv : Vals xs its)
    (hi : its[i]? = some v) (hr : Reads h' v d bs) (hk : ∀ b o, s.heap.get? b = some o → h'.get? b = some o) (hm : d ∈ ds) (ha : PySem.W.AlikeAll ds) : ∃ x, RelV x v ∧ Rp X.K H C x d := by
  have hl := rv.length
  have hlt : i < xs.length := by
    have := (List.getElem?_eq_some_iff.mp hi).1
    omega
  obtain ⟨x, hx⟩ : ∃ x, xs[i]? = some x := ⟨xs[i], List.getElem?_eq_getElem hlt⟩
  obtain ⟨u, hu, ru⟩ := rv.get hx
  obtain rfl : u = v := Option.some.inj (hu.symm.trans hi)
  obtain ⟨y, hy, ry⟩ := r.getV hx
  obtain ⟨as, r1⟩ := Dp.reads I y x u ry.dp ru
  have e : y = d := PySem.W.alike_unique y d u as bs (ha.1 y (List.mem_of_getElem? hy) d hm) (Reads.keeps hk r1) hr
  subst e
  exact ⟨x, ru, ry⟩
theorem cd_sum (hc : X.calm = true) : CallR X (.builtin "sum") (rDn X bSum) := by
  intro pins s σ H xs us Q I r h
  obtain ⟨C, ds, dz, hC, hx, hz, q⟩ := h
  unfold bSum at hz
  split at hz
  · obtain ⟨bs, hb, rfl⟩ := Option.map_eq_some_iff.mp hz
    obtain ⟨v, rfl, rv⟩ := hx.one
    obtain ⟨a, xs, rfl, sa, ra⟩ := rv.list
    rw [rp_ints hb ra] at sa
    exact cr_sum hc pins s σ H _ us Q I r ⟨a, bs, rfl, sa, q.same (.int _)⟩
  · cases hz
theorem cd_min {k : Nat} (hr : Room k X.A) (hc : X.calm = true) : CallR X (.builtin "min") (rDn X bMin) := by
  intro pins s σ H xs us Q I r h
  obtain ⟨C, ds, dz, hC, hx, hz, q⟩ := h
  have hu := units_of hr
  unfold bMin at hz
  split at hz
  · rename_i x xs
    split at hz
    · rename_i hal
      obtain ⟨hal, hdp⟩ := alikeB_of hal
      obtain rfl := Option.some.inj hz
      obtain ⟨v, rfl, rv⟩ := hx.one
      obtain ⟨a, ys, rfl, sa, ra⟩ := rv.list
      obtain ⟨u, rfl, ru⟩ := vals1 r
      cases ru
      obtain ⟨its, rl, pl, _⟩ := I.list sa
      obtain ⟨as, hrd⟩ := Dp.readsAll I (x :: xs) ys its ra.dp rl
      refine PySem.W.min_list_data (I.ok.hd hc) pl.isList (by simpa using hrd) hal (by omega) fun i w h' tk bs hi hw hk => ?_
      obtain ⟨z, rz, pz⟩ := rp_of_reads (its := its) I ra rl (by simpa using hi) hw hk (minD_mem xs x) hal
      exact ⟨z, H, I.kept hk, rz, q.same pz⟩
    · cases hz
  · rename_i x xs
    split at hz
    · rename_i hal
      obtain ⟨hal, hdp⟩ := alikeB_of hal
      obtain rfl := Option.some.inj hz
      obtain ⟨v, rfl, rv⟩ := hx.one
      obtain ⟨a, ys, rfl, sa, ra, _⟩ := rv.tuple
      obtain ⟨u, rfl, ru⟩ := vals1 r
      cases ru
      obtain ⟨its, rl, pl, _⟩ := I.tuple sa
      obtain ⟨as, hrd⟩ := Dp.readsAll I (x :: xs) ys its ra.dp rl
      refine PySem.W.min_tuple_data (I.ok.hd hc) (show s.heap.IsTuple a its.toArray from pl) (by simpa using hrd) hal (by omega) fun i w h' tk bs hi hw hk => ?_
      obtain ⟨z, rz, pz⟩ := rp_of_reads (its := its) I ra rl (by simpa using hi) hw hk (minD_mem xs x) hal
      exact ⟨z, H, I.kept hk, rz, q.same pz⟩
    · cases hz
  · cases hz
theorem cd_max {k : Nat} (hr : Room k X.A) (hc : X.calm = true) : CallR X (.builtin "max") (rDn X bMax) := by
  intro pins s σ H xs us Q I r h
  obtain ⟨C, ds, dz, hC, hx, hz, q⟩ := h
  have hu := units_of hr
  unfold bMax at hz
  split at hz
  · rename_i x xs
    split at hz
    · rename_i hal
      obtain ⟨hal, hdp⟩ := alikeB_of hal
      obtain rfl := Option.some.inj hz
      obtain ⟨v, rfl, rv⟩ := hx.one
      obtain ⟨a, ys, rfl, sa, ra⟩ := rv.list
      obtain ⟨u, rfl, ru⟩ := vals1 r
      cases ru
      obtain ⟨its, rl, pl, _⟩ := I.list sa
      obtain ⟨as, hrd⟩ := Dp.readsAll I (x :: xs) ys its ra.dp rl
      refine PySem.W.max_list_data (I.ok.hd hc) pl.isList (by simpa using hrd) hal (by omega) fun i w h' tk bs hi hw hk => ?_
      obtain ⟨z, rz, pz⟩ := rp_of_reads (its := its) I ra rl (by simpa using hi) hw hk (maxD_mem xs x) hal
      exact ⟨z, H, I.kept hk, rz, q.same pz⟩
    · cases hz
  · rename_i x xs
    split at hz
    · rename_i hal
      obtain ⟨hal, hdp⟩ := alikeB_of hal
      obtain rfl := Option.some.inj hz
      obtain ⟨v, rfl, rv⟩ := hx.one
      obtain ⟨a, ys, rfl, sa, ra, _⟩ := rv.tuple
      obtain ⟨u, rfl, ru⟩ := vals1 r
      cases ru
      obtain ⟨its, rl, pl, _⟩ := I.tuple sa
      obtain ⟨as, hrd⟩ := Dp.readsAll I (x :: xs) ys its ra.dp rl
      refine PySem.W.max_tuple_data (I.ok.hd hc) (show s.heap.IsTuple a its.toArray from pl) (by simpa using hrd) hal (by omega) fun i w h' tk bs hi hw hk => ?_
      obtain ⟨z, rz, pz⟩ := rp_of_reads (its := its) I ra rl (by simpa using hi) hw hk (maxD_mem xs x) hal
      exact ⟨z, H, I.kept hk, rz, q.same pz⟩
    · cases hz
  · cases hz
/-- isinstance(d, T) -/
def tyName : Ty → String
  | .int => "int" | .str => "str" | .bool => "bool" | .tuple => "tuple" | .list => "list" | .dict => "dict"
theorem isi_ok (t : Ty) {pins : List (Addr × Obj)} {s : Shared} {σ : L2.St} {H : Hp} {C : Addr → Prop} {x : V} {v : Value} {d : D} {Q : VK} (I : Inv X pins σ H s) (rx : RelV x v) (hx : Rt X.K H C x d) (hd : ∀ kvs, d ≠ .dict kvs) (q : Q (.bl (isTy t d)) H) :
    wpAny (model X.prog X.w) X.A (call (.builtin "isinstance") [v, .type (tyName t)]) (EP X pins σ Q) X.xe s := by
  obtain ⟨as, r⟩ := Dp.reads I d x v (hx.dp' hd) rx
  have fin : ∀ (b : Bool) tk, b = isTy t d → EP X pins σ Q (.bool b) { s with toks := tk } := fun b tk e => ⟨.bl b, H, I.tok _, rfl, by rw [e]; exact q⟩
  cases t with
  | int => exact PySem.W.isinstance_int_data r fun tk _ => fin _ tk (by cases d <;> rfl)
  | str => exact PySem.W.isinstance_str_data r fun tk _ => fin _ tk (by cases d <;> rfl)
  | bool => exact PySem.W.isinstance_bool_data r fun tk _ => fin _ tk (by cases d <;> rfl)
  | tuple => exact PySem.W.isinstance_tuple_data r fun tk _ => fin _ tk (by cases d <;> rfl)
  | list => exact PySem.W.isinstance_list_data r fun tk _ => fin _ tk (by cases d <;> rfl)
  | dict => exact PySem.W.isinstance_dict_data r fun tk _ => fin _ tk (by cases d <;> rfl)
end
end Rf
end
section
set_option linter.all false
set_option maxRecDepth 100000
set_option maxHeartbeats 1000000
namespace Rf
open PySem PySem.Spec PyProof.Rows L2

theorem PE.imp {X : Cx} {e : Expr} {t t' : TE} (h : PE X e t) (f : ∀ σ H Q, t' σ H Q → t σ H Q) : PE X e t' := ⟨fun pins s σ H Q I q => h.run pins s σ H Q I (f _ _ _ q)⟩
theorem PA.imp {X : Cx} {e : List Expr} {t t' : TA} (h : PA X e t) (f : ∀ σ H Q, t' σ H Q → t σ H Q) : PA X e t' := ⟨fun p pins s σ H Q I q => h.run p pins s σ H Q I (f _ _ _ q)⟩
theorem PT.imp {X : Cx} {e : Expr} {t t' : TT} (h : PT X e t) (f : ∀ σ H Q, t' σ H Q → t σ H Q) : PT X e t' := ⟨fun pins s σ H Q I q => h.run pins s σ H Q I (f _ _ _ q)⟩

structure Tab where
  prog : Nat → Option Fn
  fname : Nat → Option Str
  ename : Nat → Option Str
  gname : Nat → Option Str
  sname : Option Str

def visB (sc : Scope) (x : Str) : Bool := match sc.names.lookup x with
  | some .local => true
  | some .cell => true
  | some .free => true
  | _ => false
def glB (sc : Scope) (x : Str) : Bool := sc.names.lookup x == some .globalImplicit
def nameB (N : List Str) (sc : Scope) (i : Nat) (x : Str) : Bool := N[i]? == some x && visB sc x && !(x == ("__debug__" : Str)) && !(x == ("__classdict__" : Str))
def constB : D → Const → Bool
  | .none, .none => true
  | .bool a, .bool b => a == b
  | .int a, .int b => a == b
  | .str a, .str b => a == b && decide (a.length ≤ sizeLine)
  | _, _ => false
def biName : Bi → Option Str
  | .len => some "len"
  | .sum => some "sum"
  | .min => some "min"
  | .max => some "max"
  | .abs => some "abs"
  | .all => some "all"
  | .any => some "any"
  | .tuple => some "tuple"
  | .list => some "list"
  | .int => some "int"
  | .max2 => some "max"
  | .str => some "str"
  | _ => none
def solid : L → Bool
  | .peek _ => false
  | .and_ a b => solid a && solid b
  | .or_ a b => solid a && solid b
  | .ite _ a b => solid a && solid b
  | _ => true
def starB : Expr → Bool
  | .Starred _ _ => true
  | _ => false
def sliceB : Expr → Bool
  | .Slice _ _ _ _ => true
  | _ => false
def setB : Expr → Bool
  | .Set _ _ _ => true
  | _ => false

end Rf
end
section
set_option linter.all false
set_option maxRecDepth 100000
set_option maxHeartbeats 1000000
namespace Rf
open PySem PySem.Spec PyProof.Rows L2

/-- an argument: data, or a mutable object of the caller's -/
def ArgR (K : PySem.W.Frag) (C : Addr → Prop) (H : Hp) (v : V) : X → Prop
  | .d x => Rp K H C v x
  | .cell own k => own = false ∧ ∃ a, v = .ref a ∧ C a ∧ CellAt K H C a k
  | .pin => False
inductive ArgsR (K : PySem.W.Frag) (C : Addr → Prop) (H : Hp) : List V → List X → Prop
  | nil : ArgsR K C H [] []
  | cons {v x vs xs} : ArgR K C H v x → ArgsR K C H vs xs → ArgsR K C H (v :: vs) (x :: xs)
/-- the addresses of the mutable arguments -/
def argW (vs : List V) (xs : List X) (a : Addr) : Prop := ∃ (i : Nat) (b : Bool) (k : Cell), xs[i]? = some (X.cell b k) ∧ vs[i]? = some (V.ref a)
def argsApart (vs : List V) (xs : List X) : Prop := ∀ (i j : Nat) (b b' : Bool) (k k' : Cell) (v : V), xs[i]? = some (X.cell b k) → xs[j]? = some (X.cell b' k') → vs[i]? = some v → vs[j]? = some v → i = j
/-- what stands at the mutable arguments behind the call -/
inductive OutsR (K : PySem.W.Frag) (C : Addr → Prop) (H : Hp) : List V → List X → List Cell → Prop
  | nil : OutsR K C H [] [] []
  | data {v x vs xs outs} : OutsR K C H vs xs outs → OutsR K C H (v :: vs) (.d x :: xs) outs
  | cell {a b k k' vs xs outs} : CellAt K H C a k' → OutsR K C H vs xs outs → OutsR K C H (.ref a :: vs) (.cell b k :: xs) (k' :: outs)
def spF (K : PySem.W.Frag) (tb : Tab) (cl : Nat → Value) (n f : Nat) : Sp := fun vs H Q E => ∃ (C : Addr → Prop) (xs : List X), (∀ a, C a → H a ≠ none) ∧ ArgsR K C H vs xs ∧ argsApart vs xs ∧
  match run tb.prog n f xs with
  | .ok d outs => ∀ v H', (∀ a o, H a = some o → ¬ argW vs xs a → H' a = some o) → (∀ a, C a → H' a ≠ none) → Rp K H' C v d → OutsR K C H' vs xs outs → Q v H'
  | .exc e => ∀ H', (∀ a o, H a = some o → H' a = some o) → E (cl e) none H'
  | .stuck => False

def bltNames : List Str := ["len", "sum", "min", "max", "abs", "all", "any", "tuple", "list", "int", "isinstance", "str", "bool", "dict", "range", "zip", "enumerate", "sorted", "set"]
structure FnRec (tb : Tab) (n : Nat) (c : Cfg) (X : Cx) (f : Nat) (x : Str) : Prop where
  ex : ∃ (fa : Addr) (fd : FuncData) (ps : List Str), X.mg x = some (.ref fa) ∧ PySem.W.keepIn X.K (.ref fa) = true ∧ FnOk X.prog X.w X.K X.mg X.base (L2.CX X.prog X.w) n fa fd ps (spF X.K tb c.cl n f) ∧ Binds X.K fd ps []
/-- a constant of the module -/
structure GlobRec (X : Cx) (g : Nat) (x : Str) : Prop where
  ex : ∃ u v d, X.mg x = some u ∧ RelV v u ∧ globD g = some d ∧ ∀ (H : Hp) (C : Addr → Prop), Rp X.K H C v d
inductive RelS : Option Value → Option Str → Prop
  | none : RelS none none
  | some {x : Str} {t : Tok} : x.length ≤ sizeLine → RelS (some (.str x t)) (some x)
/-- the module's table of texts -/
structure SignRec (X : Cx) (x : Str) : Prop where
  ex : ∃ d es n, X.mg x = some (.ref d) ∧ KDict X.K X.w d es n ∧ ∀ z, ∃ r, PySem.W.nsIn X.K d z = some r ∧ RelS r (signsTab.lookup z)
structure Good (tb : Tab) (n : Nat) (c : Cfg) (N : List Str) (sc : Scope) (X : Cx) (W : WX) : Prop where
  hK : X.K = c.K
  hN : X.N = N
  nd : N.Nodup
  hsc : X.env.scope = sc
  calm : X.calm = true
  room : Room n X.A
  tk : Takes X W
  fn : ∀ f x, tb.fname f = some x → FnRec tb n c X f x
  blt : ∀ x ∈ bltNames, X.mg x = none
  glb : ∀ g x, tb.gname g = some x → GlobRec X g x
  sgn : ∀ x, tb.sname = some x → SignRec X x

section
variable {tb : Tab} {n : Nat} {c : Cfg} {N : List Str} {sc : Scope} {X : Cx} {W : WX}
theorem vis_of {x : Str} (G : Good tb n c N sc X W) (h : visB sc x = true) : Vis X.env.scope x := by
  unfold visB at h
  rw [← G.hsc] at h
  unfold Vis
  split at h
  · exact .inl (by assumption)
  · exact .inr (.inl (by assumption))
  · exact .inr (.inr (by assumption))
  · cases h
theorem gl_of {x : Str} (G : Good tb n c N sc X W) (h : glB sc x = true) : Gl X x := by
  unfold glB at h
  rw [← G.hsc] at h
  exact beq_iff_eq.mp h
theorem pe_name (G : Good tb n c N sc X W) {i : Nat} {x : Str} {p : Pos} (h : nameB N sc i x = true) : PE X (.Name x p) (tVar i) := by
  unfold nameB at h
  obtain ⟨h, h4⟩ := Bool.and_eq_true_iff.mp h
  obtain ⟨h, h3⟩ := Bool.and_eq_true_iff.mp h
  obtain ⟨h1, h2⟩ := Bool.and_eq_true_iff.mp h
  exact pe_var (by rw [G.hN]; exact beq_iff_eq.mp h1) (vis_of G h2) (by simpa using h3) (by simpa using h4)
theorem starEach_of {e : Expr} {es : List Expr} {env : Env} (h : starB e = false) : starEach (e :: es) env = (false, eval e env) :: starEach es env := by
  cases e <;> first
    | rfl
    | exact absurd h (by decide)
    | (cases (show true = false from h))
theorem backTo_of {env : Env} {pos : Pos} : ∀ {es : List Expr}, es.all (fun e => !starB e) = true → (backTo pos (starEach es env)).any (·.1) = false
  | [], _ => rfl
  | e :: es, h => by
    obtain ⟨h1, h2⟩ := Bool.and_eq_true_iff.mp (show (!starB e && es.all fun e => !starB e) = true from h)
    rw [starEach_of (by simpa using h1)]
    show (false || (backTo pos (starEach es env)).any (·.1)) = false
    rw [backTo_of h2] <;> rfl
/-- how the value of a term stands -/
def rE (K : PySem.W.Frag) (l : L) : L2.St → D → V → Hp → (Addr → Prop) → Prop := if solid l = true then rP K else rT K
theorem rE_solid {K : PySem.W.Frag} {l : L} (h : solid l = true) : rE K l = rP K := if_pos h
theorem rE_rt {K : PySem.W.Frag} {l : L} {σ : L2.St} {d : D} {v : V} {H : Hp} {C : Addr → Prop} (h : rE K l σ d v H C) : Rt K H C v d := by
  unfold rE at h
  split at h
  · exact .rp h
  · exact h
theorem rE_of {K : PySem.W.Frag} {l : L} {σ : L2.St} {d : D} {v : V} {H : Hp} {C : Addr → Prop} (h : Rp K H C v d) : rE K l σ d v H C := by
  unfold rE
  split
  · exact h
  · exact .rp h

theorem snd_var (G : Good tb n c N sc X W) {i : Nat} {x : Str} {p : Pos} {Γ} (h : nameB N sc i x = true) : PE X (.Name x p) (tM c W (evalE Γ (.var i)) (rP c.K)) := by
  refine PE.imp (pe_name G h) fun σ H Q ⟨W0, sl, sr, q⟩ => ?_
  simp only [evalE] at q
  obtain ⟨d, hd, q⟩ := q.of
  obtain ⟨v, e, r⟩ := sr.data hd
  exact ⟨v, e, q.now sr v r⟩
theorem snd_peek (G : Good tb n c N sc X W) {i : Nat} {x : Str} {p : Pos} {Γ} (h : nameB N sc i x = true) : PE X (.Name x p) (tM c W (evalE Γ (.peek i)) (rT c.K)) := by
  refine PE.imp (pe_name G h) fun σ H Q ⟨W0, sl, sr, q⟩ => ?_
  simp only [evalE] at q
  obtain ⟨d, hd, q⟩ := q.of
  obtain ⟨v, e, r⟩ := sr.peek hd
  exact ⟨v, e, q.now sr v r⟩
/-- a slot's object becomes data -/
theorem SR.freeze {W0 : Addr → Prop} {sl : Sl} {σ : L2.St} {H : Hp} (sr : SR c W0 sl σ H) {i : Nat} {k : Cell} {d : D} (h : sl[i]? = some (some (.cell true k))) (hd : cellD k = some d) :
    ∃ v W1, σ[i]? = some (some v) ∧ Stp W0 H W1 H ∧ SR c W1 (sl.set i (some (.d d))) σ H ∧ Rp c.K H (un W1 c.C0) v d := by
  obtain ⟨v, e, a, rfl, wa, ow, ca⟩ := sr.slot i _ h
  have hC0 : ¬ c.C0 a := ow.mp rfl
  have st : Stp W0 H (fun b => W0 b ∧ b ≠ a) H := ⟨fun _ _ e _ => e, fun b hb => .inl hb.1⟩
  have dat : Rp c.K H (un (fun b => W0 b ∧ b ≠ a) c.C0) (.ref a) d := by
    cases k with
    | lst xs =>
      obtain rfl := Option.some.inj (show some (PyData.list xs) = some d from hd)
      obtain ⟨ys, ea, ra⟩ := ca
      exact .lst (.inl ⟨.of ea, fun q => q.elim (fun z => z.2 rfl) hC0⟩) (ra.step st)
    | dK _ => cases hd
  refine ⟨_, _, e, st, ⟨fun b hb => sr.trk b (hb.imp (·.1) id), by rw [List.length_set]; exact sr.len, fun j x hj => ?_, fun j j' b b' k1 k2 v h1 h2 => ?_, fun j k v h1 h2 => ?_⟩, dat⟩
  · by_cases hij : j = i
    · subst hij
      rw [List.getElem?_set_self (List.getElem?_eq_some_iff.mp h).1] at hj
      obtain rfl := Option.some.inj (Option.some.inj hj)
      exact ⟨_, e, dat⟩
    · rw [List.getElem?_set_ne (Ne.symm hij)] at hj
      obtain ⟨v, e1, r⟩ := sr.slot j x hj
      refine ⟨v, e1, ?_⟩
      cases x with
      | d x => exact Rp.step st (show Rp c.K H (un W0 c.C0) v x from r)
      | cell own k' =>
        obtain ⟨a', rfl, wa', ow', ca'⟩ := r
        refine ⟨a', rfl, ⟨wa', fun z => hij ?_⟩, ow', ca'.grow (fun _ _ q m => Rd.keep st q m) fun _ e => e⟩
        subst z
        exact sr.inj j i own true k' k (.ref a') hj h e1 e
      | pin => exact r
  · by_cases h1i : j = i
    · subst h1i
      rw [List.getElem?_set_self (List.getElem?_eq_some_iff.mp h).1] at h1
      cases h1
    · by_cases h2i : j' = i
      · subst h2i
        rw [List.getElem?_set_self (List.getElem?_eq_some_iff.mp h).1] at h2
        cases h2
      · rw [List.getElem?_set_ne (Ne.symm h1i)] at h1
        rw [List.getElem?_set_ne (Ne.symm h2i)] at h2
        exact sr.inj j j' b b' k1 k2 v h1 h2
  · by_cases h1i : j = i
    · subst h1i
      rw [List.getElem?_set_self (List.getElem?_eq_some_iff.mp h).1] at h1
      cases h1
    · rw [List.getElem?_set_ne (Ne.symm h1i)] at h1
      exact sr.org j k v h1 h2
theorem snd_frz (G : Good tb n c N sc X W) {i : Nat} {x : Str} {p : Pos} {Γ} (h : nameB N sc i x = true) : PE X (.Name x p) (tM c W (evalE Γ (.frz i)) (rP c.K)) := by
  refine PE.imp (pe_name G h) fun σ H Q ⟨W0, sl, sr, q⟩ => ?_
  simp only [evalE] at q
  unfold frzD at q
  split at q
  · rename_i d hd
    obtain ⟨v, e, r⟩ := sr.slot i _ hd
    exact ⟨v, e, q.now sr v r⟩
  · rename_i k hk
    split at q
    · rename_i d hd
      obtain ⟨v, W1, e, st, sr1, r⟩ := sr.freeze hk hd
      exact ⟨v, e, q W1 H st sr1 v r⟩
    · exact q.elim
  · exact q.elim
theorem const_q {W0 : Addr → Prop} {sl : Sl} {σ : L2.St} {H : Hp} {d : D} {Q : VK} {Γ} {v : V} (r : ∀ C, Rp c.K H C v d) (h : tM c W (evalE Γ (.const d)) (rP c.K) σ H Q) : Q v H := by
  obtain ⟨W0, sl, sr, q⟩ := h
  simp only [evalE] at q
  exact q.now sr v (r _)
theorem snd_const {j : Nat} {p : Pos} {Γ} : ∀ {d : D} {k : Const}, constB d k = true → PE X (.Constant k j p) (tM c W (evalE Γ (.const d)) (rP c.K))
  | .none, .none, _ => PE.imp pe_non fun σ H Q q => const_q (sl := []) (W0 := fun _ => True) (σ := σ) (fun _ => .non) q
  | .bool a, .bool b, h => by
    obtain rfl := beq_iff_eq.mp (show (a == b) = true from h)
    exact PE.imp pe_bl fun σ H Q q => const_q (sl := []) (W0 := fun _ => True) (σ := σ) (fun _ => .bl _) q
  | .int a, .int b, h => by
    obtain rfl := beq_iff_eq.mp (show (a == b) = true from h)
    exact PE.imp pe_int fun σ H Q q => const_q (sl := []) (W0 := fun _ => True) (σ := σ) (fun _ => .int _) q
  | .str a, .str b, h => by
    obtain ⟨h1, h2⟩ := Bool.and_eq_true_iff.mp (show (a == b && decide (a.length ≤ sizeLine)) = true from h)
    obtain rfl := beq_iff_eq.mp h1
    exact PE.imp pe_str fun σ H Q q => const_q (sl := []) (W0 := fun _ => True) (σ := σ) (fun _ => .str _ (of_decide_eq_true h2)) q
theorem rtrk {W0 : Addr → Prop} {sl : Sl} {σ : L2.St} {H : Hp} (sr : SR c W0 sl σ H) : ∀ a, un W0 c.C0 a → H a ≠ none := sr.trk

theorem snd_tup {es : Ls} {xs : List Expr} {j : Nat} {p : Pos} {Γ} (h : PA X xs (tMs c W (evalLs Γ es) (rPs c.K))) : PE X (.Tuple xs j p) (tM c W (evalE Γ (.tup es)) (rP c.K)) := by
  refine PE.imp (pe_tup h) fun σ H Q ⟨W0, sl, sr, q⟩ => ?_
  simp only [evalE] at q
  refine ⟨W0, sl, sr, q.bind.mono fun ds W1 sl1 H1 st sr1 q vs rv => ?_⟩
  split at q
  · rename_i hl
    have rv : RpAll c.K H1 (un W1 c.C0) vs ds := rv
    refine ⟨by rw [rv.length]; exact hl, fun a ha => ?_⟩
    have g := upd_grow (o := HO.tup vs) ha
    refine q W1 _ (.grow g) (sr1.grow g) _ ?_
    exact .tup (.inl ⟨.of upd_same, sr1.trk a |> fun z w => z w ha⟩) (rv.step (.grow g))
  · exact q.elim
theorem snd_lst {es : Ls} {xs : List Expr} {p : Pos} {Γ} (h : PA X xs (tMs c W (evalLs Γ es) (rPs c.K))) : PE X (.List xs p) (tM c W (evalE Γ (.lst es)) (rP c.K)) := by
  refine PE.imp (pe_lst h) fun σ H Q ⟨W0, sl, sr, q⟩ => ?_
  simp only [evalE] at q
  refine ⟨W0, sl, sr, q.bind.mono fun ds W1 sl1 H1 st sr1 q vs rv => ?_⟩
  split at q
  · rename_i hl
    have rv : RpAll c.K H1 (un W1 c.C0) vs ds := rv
    refine ⟨by rw [rv.length]; exact hl, fun a ha => ?_⟩
    have g := upd_grow (o := HO.lst vs) ha
    refine q W1 _ (.grow g) (sr1.grow g) _ ?_
    exact .lst (.inl ⟨.of upd_same, sr1.trk a |> fun z w => z w ha⟩) (rv.step (.grow g))
  · exact q.elim
/-- what a primitive is handed -/
theorem made_of {W1 : Addr → Prop} {sl1 : Sl} {σ : L2.St} {H1 : Hp} {d : D} {Q : VK} (sr1 : SR c W1 sl1 σ H1) (q : WP c W σ W1 H1 (.ok d sl1) fun a W' _ H' => ∀ v, rP c.K σ a v H' (un W' c.C0) → Q v H') : Made c.K (un W1 c.C0) H1 d Q :=
  fun v H' g r => q W1 H' (.grow g) (sr1.grow g) v r
theorem snd_op {a b : Expr} {za zb : Z} {o : O2} {f : Value → Value → Sem Value} {Γ} {t : TE → TE → TE} {e : Expr} (hK : X.K = c.K) (h : ∀ {ta tb : TE}, PE X a ta → PE X b tb → PE X e (tOp (rD2 X (sem2 o)) ta tb))
    (ha : PE X a (tM c W (evalZ Γ za) (rZ c.K))) (hb : PE X b (tM c W (evalZ Γ zb) (rZ c.K))) : PE X e (tM c W (evalE Γ (.op o za zb)) (rP c.K)) := by
  refine PE.imp (h ha hb) fun σ H Q ⟨W0, sl, sr, q⟩ => ?_
  simp only [evalE] at q
  refine ⟨W0, sl, sr, q.bind.mono fun x W1 sl1 H1 st1 sr1 q v rv => ⟨W1, sl1, sr1, q.bind.mono fun y W2 sl2 H2 st2 sr2 q u ru => ?_⟩⟩
  obtain ⟨d, hd, q⟩ := q.of
  obtain ⟨d1, h1, hd⟩ := Option.bind_eq_some_iff.mp (show (zD sl2 x).bind _ = some d from hd)
  obtain ⟨d2, h2, hd⟩ := Option.bind_eq_some_iff.mp hd
  refine ⟨_, d1, d2, d, sr2.trk, ?_, ?_, hd, ?_⟩
  · rw [hK]; exact sr2.zd (rZ.step st2 rv) h1
  · rw [hK]; exact sr2.zd ru h2
  · rw [hK]; exact made_of sr2 q
end
end Rf
end
section
set_option linter.all false
set_option maxRecDepth 100000
set_option maxHeartbeats 1000000
namespace Rf
open PySem PySem.Spec PyProof.Rows L2
section
variable {tb : Tab} {n : Nat} {c : Cfg} {N : List Str} {sc : Scope} {X : Cx} {W : WX}

theorem isEmpty_len {α β : Type} {xs : List α} {ys : List β} (h : xs.length = ys.length) : xs.isEmpty = ys.isEmpty := by
  cases xs <;> cases ys <;> first | rfl | (simp at h)
theorem tru_of {H : Hp} {C : Addr → Prop} {v : V} {d : D} (r : Rt X.K H C v d) : TruV X.K v H (truth d) := by
  cases d with
  | none => obtain rfl := r.non; exact rfl
  | bool b => obtain rfl := r.bl; exact rfl
  | int i => obtain rfl := r.int; exact rfl
  | str x =>
    obtain ⟨rfl, hl⟩ := r.str
    refine ⟨hl, ?_⟩
    show (x.length != 0) = ((x.length : Int) != 0)
    rw [Bool.eq_iff_iff]
    simp
  | list ds =>
    obtain ⟨a, xs, rfl, sa, ra⟩ := r.list
    exact .inl ⟨xs, sa, by show (!ds.isEmpty) = _; rw [isEmpty_len ra.length]⟩
  | tuple ds =>
    obtain ⟨a, xs, rfl, sa, ra, _⟩ := r.tuple
    exact .inr (.inl ⟨xs, sa, by show (!ds.isEmpty) = _; rw [isEmpty_len ra.length]⟩)
  | dict kvs =>
    obtain ⟨a, vs, ds, rfl, hd, rkv, rfl⟩ := r.dict
    refine .inr (.inr ⟨vs, hd, ?_⟩)
    show (!(kvD ds).isEmpty) = _
    rw [isEmpty_len (show (kvD ds).length = vs.length by rw [rkv.length]; unfold kvD; rw [List.length_map])]

/-- a test's reading -/
def tMb (c : Cfg) (Wx : WX) (m : Sl → R Bool) : TT := fun σ H Q => ∃ W sl, SR c W sl σ H ∧ WP c Wx σ W H (m sl) fun b W' sl' H' => Q b H'
def evalT (Γ : Nat → List Rf.X → CR) (l : L) (sl : Sl) : R Bool := (evalE Γ l sl).bind fun x sl => .ok (truth x) sl
def plainTest : Expr → Bool
  | .UnaryOp .Not _ _ => false
  | .BoolOp _ _ _ => false
  | .IfExp _ _ _ _ => false
  | .Compare _ _ _ _ => false
  | _ => true
theorem isTrue_of {e : Expr} {env : Env} (h : plainTest e = true) : ∀ whole, isTrue e env whole = (do let v ← whole; standAt e.pos; holding [v] (truthy v)) := fun whole => by
  cases e with
  | UnaryOp o x p => cases o <;> first | rfl | exact absurd h Bool.false_ne_true
  | BoolOp _ _ _ => exact absurd h Bool.false_ne_true
  | IfExp _ _ _ _ => exact absurd h Bool.false_ne_true
  | Compare _ _ _ _ => exact absurd h Bool.false_ne_true
  | _ => rfl
/-- an expression's value as a test -/
theorem test_plain {l : L} {e : Expr} {Γ} (hK : X.K = c.K) (h : PE X e (tM c W (evalE Γ l) (rE c.K l))) (he : plainTest e = true) : PT X e (tMb c W (evalT Γ l)) := by
  refine PT.imp (pt_truth h (isTrue_of he)) fun σ H Q ⟨W0, sl, sr, q⟩ => ?_
  refine ⟨W0, sl, sr, (WP.bind q).mono fun d W1 sl1 H1 st sr1 q v rv => ⟨truth d, ?_, q.now sr1⟩⟩
  have r := rE_rt rv
  rw [← hK] at r
  exact tru_of r

theorem bool_truth (b : Bool) : truth (.bool b) = b := rfl
theorem snd_not {e : Expr} {p : Pos} {a : L} {Γ} (hK : X.K = c.K) (h : PE X e (tM c W (evalE Γ a) (rE c.K a))) : PE X (.UnaryOp .Not e p) (tM c W (evalE Γ (.not_ a)) (rP c.K)) := by
  refine PE.imp (pe_notT h) fun σ H Q ⟨W0, sl, sr, q⟩ => ?_
  simp only [evalE] at q
  refine ⟨W0, sl, sr, q.bind.mono fun d W1 sl1 H1 st sr1 q v rv => ⟨truth d, ?_, q.now sr1 _ (.bl _)⟩⟩
  have r := rE_rt rv
  rw [← hK] at r
  exact tru_of r
theorem tst_not {e : Expr} {p : Pos} {a : L} {Γ} (h : PT X e (tMb c W (evalT Γ a))) : PT X (.UnaryOp .Not e p) (tMb c W (evalT Γ (.not_ a))) := by
  refine PT.imp (pt_not h) fun σ H Q ⟨W0, sl, sr, q⟩ => ?_
  refine ⟨W0, sl, sr, ?_⟩
  unfold evalT at q ⊢
  simp only [evalE] at q
  have q := q.bind.bind
  revert q
  cases evalE Γ a sl with
  | ok d sl1 => exact fun q W' H' st sr' => ((q W' H' st sr').now sr').now sr'
  | exc e sl1 => exact fun q => q
  | stuck => exact fun q => q
theorem snd_and {x y : Expr} {rest : List Expr} {p : Pos} {a b : L} {Γ} (hK : X.K = c.K) (hs : solid a = true) (hsb : solid b = true) (ha : PE X x (tM c W (evalE Γ a) (rP c.K))) (hb : PE X (.BoolOp .And (y :: rest) p) (tM c W (evalE Γ b) (rP c.K))) :
    PE X (.BoolOp .And (x :: y :: rest) p) (tM c W (evalE Γ (.and_ a b)) (rP c.K)) := by
  refine PE.imp (pe_andT ha hb) fun σ H Q ⟨W0, sl, sr, q⟩ => ?_
  simp only [evalE] at q
  refine ⟨W0, sl, sr, q.bind.mono fun d W1 sl1 H1 st sr1 q v rv => ⟨truth d, ?_, ?_⟩⟩
  · have r : Rt c.K H1 (un W1 c.C0) v d := .rp rv
    rw [← hK] at r
    exact tru_of r
  · split at q
    · rename_i hd
      rw [if_pos hd]
      exact ⟨W1, sl1, sr1, q⟩
    · rename_i hd
      rw [if_neg hd]
      exact q.now sr1 v rv
theorem snd_or {x y : Expr} {rest : List Expr} {p : Pos} {a b : L} {Γ} (hK : X.K = c.K) (ha : PE X x (tM c W (evalE Γ a) (rP c.K))) (hb : PE X (.BoolOp .Or (y :: rest) p) (tM c W (evalE Γ b) (rP c.K))) :
    PE X (.BoolOp .Or (x :: y :: rest) p) (tM c W (evalE Γ (.or_ a b)) (rP c.K)) := by
  refine PE.imp (pe_orT ha hb) fun σ H Q ⟨W0, sl, sr, q⟩ => ?_
  simp only [evalE] at q
  refine ⟨W0, sl, sr, q.bind.mono fun d W1 sl1 H1 st sr1 q v rv => ⟨truth d, ?_, ?_⟩⟩
  · have r : Rt c.K H1 (un W1 c.C0) v d := .rp rv
    rw [← hK] at r
    exact tru_of r
  · split at q
    · rename_i hd
      rw [if_pos hd]
      exact q.now sr1 v rv
    · rename_i hd
      rw [if_neg hd]
      exact ⟨W1, sl1, sr1, q⟩
/-- and, or as tests -/
theorem tst_and {x y : Expr} {rest : List Expr} {p : Pos} {a b : L} {Γ} (ha : PT X x (tMb c W (evalT Γ a))) (hb : PW X (.BoolOp .And (y :: rest) p) (tMb c W (evalT Γ b))) : PW X (.BoolOp .And (x :: y :: rest) p) (tMb c W (evalT Γ (.and_ a b))) := by
  refine ⟨fun whole pins s σ H Q I q => (pw_and ha hb).run whole pins s σ H Q I ?_⟩
  obtain ⟨W0, sl, sr, q⟩ := q
  refine ⟨W0, sl, sr, ?_⟩
  unfold evalT at q ⊢
  simp only [evalE] at q
  revert q
  cases e : evalE Γ a sl with
  | ok d sl1 =>
    intro q W' H' st sr'
    dsimp only
    have q : WP c W σ W0 H ((if truth d = true then evalE Γ b sl1 else .ok d sl1).bind fun x sl => .ok (truth x) sl) fun b W' sl' H' => Q b H' := q
    split at q
    · rename_i hd
      rw [if_pos hd]
      exact ⟨W', sl1, sr', q.step st⟩
    · rename_i hd
      rw [if_neg hd]
      have := q W' H' st sr'
      rw [Bool.not_eq_true] at hd
      rw [hd] at this
      exact this
  | exc e sl1 => exact fun q => q
  | stuck => exact fun q => q
theorem tst_or {x y : Expr} {rest : List Expr} {p : Pos} {a b : L} {Γ} (ha : PT X x (tMb c W (evalT Γ a))) (hb : PW X (.BoolOp .Or (y :: rest) p) (tMb c W (evalT Γ b))) : PW X (.BoolOp .Or (x :: y :: rest) p) (tMb c W (evalT Γ (.or_ a b))) := by
  refine ⟨fun whole pins s σ H Q I q => (pw_or ha hb).run whole pins s σ H Q I ?_⟩
  obtain ⟨W0, sl, sr, q⟩ := q
  refine ⟨W0, sl, sr, ?_⟩
  unfold evalT at q ⊢
  simp only [evalE] at q
  revert q
  cases e : evalE Γ a sl with
  | ok d sl1 =>
    intro q W' H' st sr'
    dsimp only
    have q : WP c W σ W0 H ((if truth d = true then .ok d sl1 else evalE Γ b sl1).bind fun x sl => .ok (truth x) sl) fun b W' sl' H' => Q b H' := q
    split at q
    · rename_i hd
      rw [if_pos hd]
      have := q W' H' st sr'
      rw [hd] at this
      exact this
    · rename_i hd
      rw [if_neg hd]
      exact ⟨W', sl1, sr', q.step st⟩
  | exc e sl1 => exact fun q => q
  | stuck => exact fun q => q
theorem snd_ite {t x y : Expr} {p : Pos} {lt a b : L} {Γ} {re : L2.St → D → V → Hp → (Addr → Prop) → Prop} (ht : PT X t (tMb c W (evalT Γ lt))) (ha : PE X x (tM c W (evalE Γ a) re)) (hb : PE X y (tM c W (evalE Γ b) re)) :
    PE X (.IfExp t x y p) (tM c W (evalE Γ (.ite lt a b)) re) := by
  refine PE.imp (pe_ifExp ht ha hb) fun σ H Q ⟨W0, sl, sr, q⟩ => ?_
  simp only [evalE] at q
  refine ⟨W0, sl, sr, ?_⟩
  unfold evalT
  revert q
  cases evalE Γ lt sl with
  | ok d sl1 =>
    intro q W' H' st sr'
    dsimp only
    have q : WP c W σ W0 H (if truth d = true then evalE Γ a sl1 else evalE Γ b sl1) fun a W' _ H' => ∀ v, re σ a v H' (un W' c.C0) → Q v H' := q
    split at q
    · rename_i hd
      rw [if_pos hd]
      exact ⟨W', sl1, sr', q.step st⟩
    · rename_i hd
      rw [if_neg hd]
      exact ⟨W', sl1, sr', q.step st⟩
  | exc e sl1 => exact fun q => q
  | stuck => exact fun q => q
theorem snd_neg {x : Expr} {p : Pos} {a : L} {Γ} (ha : PE X x (tM c W (evalE Γ a) (rP c.K))) : PE X (.UnaryOp .USub x p) (tM c W (evalE Γ (.neg a)) (rP c.K)) := by
  refine PE.imp (pe_un un_neg ha) fun σ H Q ⟨W0, sl, sr, q⟩ => ?_
  simp only [evalE] at q
  refine ⟨W0, sl, sr, q.bind.mono fun d W1 sl1 H1 st sr1 q v rv => ?_⟩
  split at q
  · have rv : Rp c.K H1 (un W1 c.C0) v (.int _) := rv
    exact ⟨_, (Rt.rp rv).int, q.now sr1 _ (.int _)⟩
  · exact q.elim
theorem lastMarks_of {o p : CmpOp} {b z : Expr} (h : setB z = false) : lastMarks [o, p] [b, z] = false := by
  show behindInMarks p z = false
  cases z <;> first
    | rfl
    | exact absurd h Bool.noConfusion
    | (cases (show true = false from h))
theorem noMarks_of {p : CmpOp} {z : Expr} (h : setB z = false) : behindInMarks p z = false := by
  cases z <;> first
    | rfl
    | (cases (show true = false from h))
theorem snd_chain {x y z : Expr} {q r : CmpOp} {o p : O2} {pos : Pos} {a b d : L} {Γ} (hK : X.K = c.K) (hm : setB z = false) (ho : OpR X (compareOp q) (rD2 X (sem2 o))) (hp : OpR X (compareOp r) (rD2 X (sem2 p)))
    (ha : PE X x (tM c W (evalE Γ a) (rP c.K))) (hb : PE X y (tM c W (evalE Γ b) (rP c.K))) (hc : PE X z (tM c W (evalE Γ d) (rP c.K))) : PE X (.Compare x [q, r] [y, z] pos) (tM c W (evalE Γ (.chain o p a b d)) (rP c.K)) := by
  refine PE.imp (pe_chain ho hp ha hb hc (lastMarks_of hm)) fun σ H Q ⟨W0, sl, sr, q⟩ => ?_
  simp only [evalE] at q
  refine ⟨W0, sl, sr, q.bind.mono fun d1 W1 sl1 H1 st1 sr1 q v rv => ⟨W1, sl1, sr1, q.bind.mono fun d2 W2 sl2 H2 st2 sr2 q u ru => ?_⟩⟩
  have rv2 : Rt c.K H2 (un W2 c.C0) v d1 := .rp (Rp.step st2 rv)
  have ru2 : Rp c.K H2 (un W2 c.C0) u d2 := ru
  have mk : ∀ {dz : D} {k : V → Hp → Prop}, sem2 o d1 d2 = some dz → (∀ v' H3, (∀ a o, H2 a = some o → H3 a = some o) → Rp c.K H3 (un W2 c.C0) v' dz → k v' H3) → rD2 X (sem2 o) v u H2 k := fun {dz k} e f =>
    ⟨un W2 c.C0, d1, d2, dz, sr2.trk, by rw [hK]; exact rv2, by rw [hK]; exact .rp ru2, e, by rw [hK]; exact f⟩
  split at q
  · rename_i e
    refine mk e fun v' H3 g r3 => ⟨true, (Rt.rp r3).bl, ?_⟩
    rw [if_pos rfl]
    refine ⟨W2, sl2, sr2.grow g, (WP.step (.grow g) q).bind.mono fun d3 W4 sl4 H4 st4 sr4 q w rw' => ?_⟩
    obtain ⟨dz, hz, q⟩ := q.of
    refine ⟨un W4 c.C0, d2, d3, dz, sr4.trk, by rw [hK]; exact .rp (Rp.step ((Stp.grow g).trans st4) ru2), by rw [hK]; exact .rp rw', hz, by rw [hK]; exact made_of sr4 q⟩
  · rename_i e
    refine mk e fun v' H3 g r3 => ⟨false, (Rt.rp r3).bl, ?_⟩
    rw [if_neg Bool.false_ne_true]
    exact q W2 H3 (.grow g) (sr2.grow g) _ (.bl _)
  · exact q.elim
/-- d[k], the key there -/
theorem ix_dict (hu : X.A.units + 200 < cLine) : IxR X fun x y H Q => ∃ a v, x = .ref a ∧ DGet H a y (some v) ∧ Q v H := by
  intro value slice pins s σ H x y v u Q I rx ry h hs
  obtain ⟨a, w, rfl, g, q⟩ := h
  obtain rfl : v = Value.ref a := rx
  exact tail_any (dict_typeIs I g) slot_dict_getitem.lookup (d_getItem (by omega) I g ry fun w' s' I' r => ⟨w, H, I', r, q⟩) hs
theorem snd_idx (G : Good tb n c N sc X W) {x y : Expr} {p : Pos} {a i : Z} {Γ} (hs : sliceB y = false) (ha : PE X x (tM c W (evalZ Γ a) (rZ c.K))) (hb : PE X y (tM c W (evalZ Γ i) (rZ c.K))) : PE X (.Subscript x y p) (tM c W (evalE Γ (.idx a i)) (rP c.K)) := by
  have hpl : PlainIx y := fun o i => by cases y <;> first | rfl | (cases (show true = false from hs))
  refine PE.imp (pe_ix (ix_seq.or (ix_dict (units_of G.room))) ha hb hpl) fun σ H Q ⟨W0, sl, sr, q⟩ => ?_
  simp only [evalE] at q
  refine ⟨W0, sl, sr, q.bind.mono fun x W1 sl1 H1 st1 sr1 q v rv => ⟨W1, sl1, sr1, q.bind.mono fun y W2 sl2 H2 st2 sr2 q u ru => ?_⟩⟩
  obtain ⟨d, hd, q⟩ := q.of
  obtain ⟨d1, h1, hd⟩ := Option.bind_eq_some_iff.mp (show (zD sl2 x).bind _ = some d from hd)
  obtain ⟨d2, h2, hd⟩ := Option.bind_eq_some_iff.mp hd
  have hK := G.hK
  have r1 := sr2.zd (rZ.step st2 rv) h1
  have r2 := sr2.zd ru h2
  have m := made_of sr2 q
  have same : ∀ {α : Type} (xs : List α) (i : Int), Rf.atI xs i = L2.atI xs i := fun xs i => rfl
  unfold sIdx at hd
  split at hd
  · obtain rfl := r2.int
    obtain ⟨a, xs, rfl, sa, ra⟩ := r1.list
    unfold Rf.atI at hd
    obtain ⟨j, hj, hd⟩ := Option.bind_eq_some_iff.mp hd
    obtain ⟨w, hw, rw'⟩ := ra.get hd
    refine .inl (.inl ⟨a, xs, _, w, rfl, rfl, by rw [hK]; exact sa, ?_, m.same rw'⟩)
    show (place xs.length _).bind _ = some w
    rw [ra.length, hj]
    exact hw
  · obtain rfl := r2.int
    obtain ⟨a, xs, rfl, sa, ra, _⟩ := r1.tuple
    unfold Rf.atI at hd
    obtain ⟨j, hj, hd⟩ := Option.bind_eq_some_iff.mp hd
    obtain ⟨w, hw, rw'⟩ := ra.get hd
    refine .inl (.inr (.inl ⟨a, xs, _, w, rfl, rfl, by rw [hK]; exact sa, ?_, m.same rw'⟩))
    show (place xs.length _).bind _ = some w
    rw [ra.length, hj]
    exact hw
  · obtain rfl := r2.int
    obtain ⟨rfl, hl⟩ := r1.str
    obtain ⟨k, hk, rfl⟩ := Option.map_eq_some_iff.mp hd
    exact .inl (.inr (.inr ⟨_, _, k, rfl, rfl, hl, hk, m.same (.str _ (by show 1 ≤ sizeLine; decide))⟩))
  · obtain ⟨k0, hk, hd⟩ := Option.bind_eq_some_iff.mp hd
    obtain ⟨ds', hds, hd⟩ := Option.bind_eq_some_iff.mp hd
    obtain ⟨a, vs, ds, rfl, hrd, rkv, rfl⟩ := r1.dict
    rw [dKs_kvD] at hds
    obtain rfl := Option.some.inj hds
    obtain rfl := r2.key hk
    have g := rkv.get k0
    rw [hd] at g
    cases hv : valV vs k0 with
    | none => rw [hv] at g; cases g
    | some w =>
      rw [hv] at g
      cases g with | some g =>
      exact .inr ⟨a, w, rfl, .inl ⟨vs, k0, .of hrd, rfl, hv.symm⟩, m.same g⟩
  · cases hd
end
end Rf
namespace Rf
open PySem PySem.Spec PyProof.Rows L2
section
variable {tb : Tab} {n : Nat} {c : Cfg} {N : List Str} {sc : Scope} {X : Cx} {W : WX}
theorem snd_zval {e : Expr} {a : L} {Γ} (ha : PE X e (tM c W (evalE Γ a) (rP c.K))) : PE X e (tM c W (evalZ Γ (.val a)) (rZ c.K)) := by
  refine PE.imp ha fun σ H Q ⟨W0, sl, sr, q⟩ => ?_
  simp only [evalZ] at q
  exact ⟨W0, sl, sr, q.bind.mono fun d W1 sl1 H1 st sr1 q v rv => q.now sr1 v rv⟩
theorem snd_zref (G : Good tb n c N sc X W) {i : Nat} {x : Str} {p : Pos} {Γ} (h : nameB N sc i x = true) : PE X (.Name x p) (tM c W (evalZ Γ (.ref i)) (rZ c.K)) := by
  refine PE.imp (pe_name G h) fun σ H Q ⟨W0, sl, sr, q⟩ => ?_
  simp only [evalZ] at q
  split at q
  · rename_i hs
    unfold isSet at hs
    split at hs
    · rename_i y hy
      obtain ⟨v, e, _⟩ := sr.slot i y hy
      exact ⟨v, e, q.now sr v e⟩
    · cases hs
  · exact q.elim
theorem snd_nil {Γ} : PA X [] (tMs c W (evalLs Γ .nil) (rPs c.K)) := PA.imp pa_nil fun σ H Q ⟨W0, sl, sr, q⟩ => by
  simp only [evalLs] at q
  exact q.now sr [] .nil
theorem snd_cons {e : Expr} {es : List Expr} {a : L} {r : Ls} {Γ} (hs : starB e = false) (ha : PE X e (tM c W (evalE Γ a) (rP c.K))) (hr : PA X es (tMs c W (evalLs Γ r) (rPs c.K))) : PA X (e :: es) (tMs c W (evalLs Γ (.cons a r)) (rPs c.K)) := by
  refine PA.imp (pa_cons ha hr (starEach_of hs)) fun σ H Q ⟨W0, sl, sr, q⟩ => ?_
  simp only [evalLs] at q
  exact ⟨W0, sl, sr, q.bind.mono fun d W1 sl1 H1 st1 sr1 q v rv => ⟨W1, sl1, sr1, q.bind.mono fun ds W2 sl2 H2 st2 sr2 q vs rvs => q.now sr2 _ (RpAll.cons (Rp.step st2 rv) rvs)⟩⟩
theorem snd_anil {Γ} : PA X [] (tMs c W (evalAs Γ .nil) (rZs c.K)) := PA.imp pa_nil fun σ H Q ⟨W0, sl, sr, q⟩ => by
  simp only [evalAs] at q
  exact q.now sr [] .nil
theorem snd_acons {e : Expr} {es : List Expr} {z : Z} {r : As} {Γ} (hs : starB e = false) (ha : PE X e (tM c W (evalZ Γ z) (rZ c.K))) (hr : PA X es (tMs c W (evalAs Γ r) (rZs c.K))) : PA X (e :: es) (tMs c W (evalAs Γ (.cons z r)) (rZs c.K)) := by
  refine PA.imp (pa_cons ha hr (starEach_of hs)) fun σ H Q ⟨W0, sl, sr, q⟩ => ?_
  simp only [evalAs] at q
  exact ⟨W0, sl, sr, q.bind.mono fun d W1 sl1 H1 st1 sr1 q v rv => ⟨W1, sl1, sr1, q.bind.mono fun ds W2 sl2 H2 st2 sr2 q vs rvs => q.now sr2 _ (RZs.cons (rZ.step st2 rv) rvs)⟩⟩

/-- a built-in's value and rule -/
def BiOk (X : Cx) (b : Bi) (x : Str) : Prop := (∃ id, bootBuiltins x = some (.builtin id) ∧ CallR X (.builtin id) (rDn X (semB b))) ∨ ∃ T, bootBuiltins x = some (.type T) ∧ CallR X (.type T) (rDn X (semB b))
theorem bi_ok {k : Nat} (hr : Room k X.A) (hc : X.calm = true) : ∀ {b : Bi} {x : Str}, biName b = some x → BiOk X b x ∧ x ∈ bltNames ∧ x ≠ "__name__" ∧ (x == ("__debug__" : Str)) = false
  | .len, _, h => by obtain rfl := Option.some.inj h; exact ⟨.inl ⟨_, PySem.boot_len, cd_len⟩, by decide +kernel, by decide +kernel, by decide +kernel⟩
  | .sum, _, h => by obtain rfl := Option.some.inj h; exact ⟨.inl ⟨"sum", by decide +kernel, cd_sum hc⟩, by decide +kernel, by decide +kernel, by decide +kernel⟩
  | .min, _, h => by obtain rfl := Option.some.inj h; exact ⟨.inl ⟨"min", by decide +kernel, cd_min hr hc⟩, by decide +kernel, by decide +kernel, by decide +kernel⟩
  | .max, _, h => by obtain rfl := Option.some.inj h; exact ⟨.inl ⟨"max", by decide +kernel, cd_max hr hc⟩, by decide +kernel, by decide +kernel, by decide +kernel⟩
  | .abs, _, h => by obtain rfl := Option.some.inj h; exact ⟨.inl ⟨"abs", by decide +kernel, cd_abs⟩, by decide +kernel, by decide +kernel, by decide +kernel⟩
  | .all, _, h => by obtain rfl := Option.some.inj h; exact ⟨.inl ⟨"all", by decide +kernel, cd_all hc⟩, by decide +kernel, by decide +kernel, by decide +kernel⟩
  | .any, _, h => by obtain rfl := Option.some.inj h; exact ⟨.inl ⟨"any", by decide +kernel, cd_any hc⟩, by decide +kernel, by decide +kernel, by decide +kernel⟩
  | .tuple, _, h => by obtain rfl := Option.some.inj h; exact ⟨.inr ⟨"tuple", by decide +kernel, cd_tuple⟩, by decide +kernel, by decide +kernel, by decide +kernel⟩
  | .list, _, h => by obtain rfl := Option.some.inj h; exact ⟨.inr ⟨"list", by decide +kernel, cd_list⟩, by decide +kernel, by decide +kernel, by decide +kernel⟩
  | .int, _, h => by obtain rfl := Option.some.inj h; exact ⟨.inr ⟨"int", by decide +kernel, cd_int⟩, by decide +kernel, by decide +kernel, by decide +kernel⟩
  | .max2, _, h => by obtain rfl := Option.some.inj h; exact ⟨.inl ⟨"max", by decide +kernel, cd_max2 hc⟩, by decide +kernel, by decide +kernel, by decide +kernel⟩
  | .max0, _, h => by cases h
  | .sorted, _, h => by cases h
  | .str, _, h => by obtain rfl := Option.some.inj h; exact ⟨.inr ⟨"str", by decide +kernel, cd_str⟩, by decide +kernel, by decide +kernel, by decide +kernel⟩
  | .lenset, _, h => by cases h
  | .sortset, _, h => by cases h
  | .isi _, _, h => by cases h
theorem snd_bi (G : Good tb n c N sc X W) {x : Str} {p pos : Pos} {e : Expr} {es : List Expr} {b : Bi} {as : As} {Γ} (hb : biName b = some x) (hg : glB sc x = true) (hst : (e :: es).all (fun e => !starB e) = true) (ha : PA X (e :: es) (tMs c W (evalAs Γ as) (rZs c.K))) :
    PE X (.Call (.Name x p) (e :: es) [] pos) (tM c W (evalE Γ (.bi b as)) (rP c.K)) := by
  obtain ⟨ok, hm, hn, hd⟩ := bi_ok G.room G.calm hb
  have h1 : starB e = false := by
    rw [List.all_cons, Bool.and_eq_true] at hst
    simpa using hst.1
  have h2 : es.all (fun e => !starB e) = true := by
    rw [List.all_cons, Bool.and_eq_true] at hst
    exact hst.2
  have key : PE X (.Call (.Name x p) (e :: es) [] pos) (tCB (rDn X (semB b)) (tMs c W (evalAs Γ as) (rZs c.K))) := by
    rcases ok with ⟨id, hv, hc⟩ | ⟨T, hv, hc⟩
    · exact pe_callB hc (gl_of G hg) (G.blt x hm) hv ha hn hd (starEach_of h1) (backTo_of h2)
    · exact pe_callTy hc (gl_of G hg) (G.blt x hm) hv ha hn hd (starEach_of h1) (backTo_of h2)
  refine PE.imp key fun σ H Q ⟨W0, sl, sr, q⟩ => ?_
  simp only [evalE] at q
  refine ⟨W0, sl, sr, q.bind.mono fun zs W1 sl1 H1 st1 sr1 q vs rv => ?_⟩
  obtain ⟨d, hd, q⟩ := q.of
  obtain ⟨ds, h1, hd⟩ := Option.bind_eq_some_iff.mp hd
  refine ⟨_, ds, d, sr1.trk, ?_, hd, ?_⟩
  · rw [G.hK]; exact sr1.zds rv h1
  · rw [G.hK]; exact made_of sr1 q
theorem cd_isi (t : Ty) : CallR X (.builtin "isinstance") fun xs H Q => ∃ (C : Addr → Prop) (v : V) (d : D), xs = [v, .ty (tyName t)] ∧ Rt X.K H C v d ∧ (∀ kvs, d ≠ .dict kvs) ∧ Q (.bl (isTy t d)) H := by
  intro pins s σ H xs us Q I r h
  obtain ⟨C, v, d, rfl, rv, hd, q⟩ := h
  obtain ⟨u, w', rfl, ru, rw'⟩ := vals2 r
  cases rw'
  exact isi_ok t I ru rv hd q
theorem boot_ty (t : Ty) : bootBuiltins (tyName t : Str) = some (.type (tyName t)) ∧ (tyName t : Str) ∈ bltNames ∧ (tyName t : Str) ≠ "__name__" ∧ (((tyName t : Str)) == ("__debug__" : Str)) = false := by
  cases t <;> exact ⟨by decide +kernel, by decide +kernel, by decide +kernel, by decide +kernel⟩
theorem snd_isi (G : Good tb n c N sc X W) {p p2 pos : Pos} {e : Expr} {t : Ty} {z : Z} {Γ} (hg : glB sc "isinstance" = true) (hgt : glB sc (tyName t : Str) = true) (hs : starB e = false) (hz1 : PE X e (tM c W (evalZ Γ z) (rZ c.K))) :
    PE X (.Call (.Name "isinstance" p) [e, .Name (tyName t : Str) p2] [] pos) (tM c W (evalE Γ (.bi (.isi t) (.cons z .nil))) (rP c.K)) := by
  obtain ⟨b1, b2, b3, b4⟩ := boot_ty t
  have pt : PE X (.Name (tyName t : Str) p2) (tC (.ty (tyName t))) := pe_bltn (gl_of G hgt) (G.blt _ b2) b1 rfl b3 b4
  have key := pe_callB (pos := pos) (cd_isi t) (gl_of G hg) (G.blt _ (by decide +kernel)) (show bootBuiltins "isinstance" = some (.builtin "isinstance") by decide +kernel) (pa_cons hz1 (pa_cons pt pa_nil) (starEach_of hs)) (p := p) (by decide +kernel) (by decide +kernel) (starEach_of hs) rfl
  refine PE.imp key fun σ H Q ⟨W0, sl, sr, q⟩ => ?_
  simp only [evalE, evalAs] at q
  refine ⟨W0, sl, sr, q.bind.bind.mono fun z1 W1 sl1 H1 st1 sr1 q v rv => ?_⟩
  obtain ⟨d, hd, q⟩ := (q.now sr1).of
  obtain ⟨ds, h1, hd⟩ := Option.bind_eq_some_iff.mp hd
  obtain ⟨x, hx, h1⟩ := Option.bind_eq_some_iff.mp (show (zD sl1 z1).bind (fun x => (resolve sl1 []).map (x :: ·)) = some ds from h1)
  obtain rfl := Option.some.inj (show some [x] = some ds from h1)
  obtain ⟨nd, hd⟩ : (∀ kvs, x ≠ .dict kvs) ∧ some (PyData.bool (isTy t x)) = some d := by
    have hd : bIsi t [x] = some d := hd
    unfold bIsi at hd
    split at hd
    · cases hd
    · rename_i e1 e2; cases e2; exact ⟨fun kvs e => by subst e; exact e1 _ rfl, hd⟩
    · rename_i e1 e2; exact absurd rfl (e2 _)
  obtain rfl := Option.some.inj hd
  refine ⟨un W1 c.C0, v, x, rfl, ?_, nd, q.now sr1 _ (.bl _)⟩
  rw [G.hK]
  exact sr1.zd rv hx
end
end Rf
namespace Rf
open PySem PySem.Spec PyProof.Rows L2
section
variable {tb : Tab} {n : Nat} {c : Cfg} {N : List Str} {sc : Scope} {X : Cx} {W : WX}
theorem nodupB_cons {i : Nat} {is : List Nat} (h : nodupB (i :: is) = true) : i ∉ is ∧ nodupB is = true := by
  obtain ⟨h1, h2⟩ := Bool.and_eq_true_iff.mp (show (!is.contains i && nodupB is) = true from h)
  exact ⟨by simpa using h1, h2⟩
theorem putBack_spec : ∀ {is : List Nat} {cs : List Cell} {sl sl' : Sl}, putBack sl is cs = some sl' → nodupB is = true →
    sl'.length = sl.length ∧ (∀ j, j ∉ is → sl'[j]? = sl[j]?) ∧ ∀ (m j : Nat), is[m]? = some j → ∃ (own : Bool) (k k' : Cell), sl[j]? = some (some (.cell own k)) ∧ cs[m]? = some k' ∧ sl'[j]? = some (some (.cell own k'))
  | [], [], sl, sl', h, _ => by
    obtain rfl := Option.some.inj h
    exact ⟨rfl, fun _ _ => rfl, fun m j e => by simp at e⟩
  | i :: is, k' :: cs, sl, sl', h, nd => by
    obtain ⟨ni, nd⟩ := nodupB_cons nd
    unfold putBack at h
    split at h
    · rename_i own k hk
      obtain ⟨h1, h2, h3⟩ := putBack_spec h nd
      have hlt := (List.getElem?_eq_some_iff.mp hk).1
      refine ⟨by rw [h1, List.length_set], fun j hj => ?_, fun m j e => ?_⟩
      · rw [h2 j fun z => hj (List.mem_cons_of_mem _ z)]
        exact List.getElem?_set_ne fun z => hj (by rw [z]; exact List.mem_cons_self)
      · cases m with
        | zero =>
          obtain rfl := Option.some.inj (show some i = some j from e)
          refine ⟨own, k, k', hk, rfl, ?_⟩
          rw [h2 i ni, List.getElem?_set_self hlt]
        | succ m =>
          obtain ⟨own', k1, k2, q1, q2, q3⟩ := h3 m j e
          have hne : i ≠ j := fun z => ni (by rw [z]; exact List.mem_of_getElem? e)
          rw [List.getElem?_set_ne hne] at q1
          exact ⟨own', k1, k2, q1, q2, q3⟩
    · cases h
  | [], _ :: _, _, _, h, _ => by cases h
  | _ :: _, [], _, _, h, _ => by cases h
/-- the arguments as the callee gets them -/
theorem args_in {W1 : Addr → Prop} {sl : Sl} {σ : L2.St} {H : Hp} (sr : SR c W1 sl σ H) : ∀ {zs : List (D ⊕ Nat)} {vs : List V} {xs : List Rf.X}, RZs c.K σ H (un W1 c.C0) zs vs → fillArgs sl zs = some xs → ArgsR c.K (un W1 c.C0) H vs xs
  | [], _, _, .nil, h => by obtain rfl := Option.some.inj h; exact .nil
  | .inl d :: zs, _, _, .cons r t, h => by
    obtain ⟨ys, hy, rfl⟩ := Option.map_eq_some_iff.mp (show (fillArgs sl zs).map (Rf.X.d d :: ·) = some _ from h)
    exact .cons (show Rp _ _ _ _ _ from r) (args_in sr t hy)
  | .inr i :: zs, _, _, .cons (v := v) r t, h => by
    unfold fillArgs at h
    split at h
    · rename_i own k hk
      obtain ⟨ys, hy, rfl⟩ := Option.map_eq_some_iff.mp h
      obtain ⟨u, e, a, rfl, wa, ow, ca⟩ := sr.slot i _ hk
      obtain rfl : v = .ref a := Option.some.inj (Option.some.inj ((show σ[i]? = some (some v) from r).symm.trans e))
      exact .cons ⟨rfl, a, rfl, .inl wa, ca⟩ (args_in sr t hy)
    · cases h
/-- a mutable argument is a slot's object -/
theorem arg_cell {sl : Sl} {σ : L2.St} {K : PySem.W.Frag} {H : Hp} {C : Addr → Prop} : ∀ {zs : List (D ⊕ Nat)} {vs : List V} {xs : List Rf.X}, RZs K σ H C zs vs → fillArgs sl zs = some xs → ∀ {m : Nat} {b : Bool} {k : Cell} {v : V}, xs[m]? = some (.cell b k) → vs[m]? = some v →
    ∃ j own, zs[m]? = some (.inr j) ∧ j ∈ refsOf zs ∧ sl[j]? = some (some (.cell own k)) ∧ σ[j]? = some (some v)
  | [], _, _, .nil, h, m, b, k, v, e, _ => by
    obtain rfl := Option.some.inj h
    simp at e
  | .inl d :: zs, _, _, .cons r t, h, m, b, k, v, e, ev => by
    obtain ⟨ys, hy, rfl⟩ := Option.map_eq_some_iff.mp (show (fillArgs sl zs).map (Rf.X.d d :: ·) = some _ from h)
    cases m with
    | zero => cases (show some (Rf.X.d d) = some (.cell b k) from e)
    | succ m =>
      obtain ⟨j, own, q1, q2, q3⟩ := arg_cell t hy (m := m) e ev
      exact ⟨j, own, q1, q2, q3⟩
  | .inr i :: zs, _, _, .cons (v := v0) r t, h, m, b, k, v, e, ev => by
    unfold fillArgs at h
    split at h
    · rename_i own k' hk
      obtain ⟨ys, hy, rfl⟩ := Option.map_eq_some_iff.mp h
      cases m with
      | zero =>
        cases (show some (Rf.X.cell false k') = some (.cell b k) from e)
        obtain rfl := Option.some.inj (show some v0 = some v from ev)
        exact ⟨i, own, rfl, List.mem_cons_self, hk, r⟩
      | succ m =>
        obtain ⟨j, own', q1, q2, q3⟩ := arg_cell t hy (m := m) e ev
        exact ⟨j, own', q1, List.mem_cons_of_mem _ q2, q3⟩
    · cases h
/-- what came back stands at the slots -/
theorem outs_at {sl : Sl} {σ : L2.St} {K : PySem.W.Frag} {H H' : Hp} {C C' : Addr → Prop} : ∀ {zs : List (D ⊕ Nat)} {vs : List V} {xs : List Rf.X} {outs : List Cell}, RZs K σ H C zs vs → fillArgs sl zs = some xs → OutsR K C' H' vs xs outs → ∀ {m j : Nat}, (refsOf zs)[m]? = some j →
    ∃ a k', σ[j]? = some (some (.ref a)) ∧ outs[m]? = some k' ∧ CellAt K H' C' a k' ∧ argW vs xs a
  | [], _, _, _, .nil, h, o, m, j, e => by simp [refsOf] at e
  | .inl d :: zs, _, _, _, .cons r t, h, o, m, j, e => by
    obtain ⟨ys, hy, rfl⟩ := Option.map_eq_some_iff.mp (show (fillArgs sl zs).map (Rf.X.d d :: ·) = some _ from h)
    cases o with
    | data o =>
      obtain ⟨a, k', q1, q2, q3, i, b, k, q4, q5⟩ := outs_at t hy o (m := m) (j := j) e
      exact ⟨a, k', q1, q2, q3, i + 1, b, k, q4, q5⟩
  | .inr i :: zs, _, _, _, .cons (v := v0) r t, h, o, m, j, e => by
    unfold fillArgs at h
    split at h
    · rename_i own k1 hk
      obtain ⟨ys, hy, rfl⟩ := Option.map_eq_some_iff.mp h
      cases o with
      | cell ca o =>
        cases m with
        | zero =>
          obtain rfl := Option.some.inj (show some i = some j from e)
          exact ⟨_, _, r, rfl, ca, 0, _, _, rfl, rfl⟩
        | succ m =>
          obtain ⟨a, k', q1, q2, q3, i', b, k, q4, q5⟩ := outs_at t hy o (m := m) (j := j) e
          exact ⟨a, k', q1, q2, q3, i' + 1, b, k, q4, q5⟩
    · cases h
/-- different places of one row without repeats -/
theorem nodup_at : ∀ {is : List Nat} {m m' j : Nat}, nodupB is = true → is[m]? = some j → is[m']? = some j → m = m'
  | [], m, m', j, _, e, _ => by simp at e
  | i :: is, m, m', j, nd, e, e' => by
    obtain ⟨ni, nd⟩ := nodupB_cons nd
    cases m with
    | zero =>
      cases m' with
      | zero => rfl
      | succ m' =>
        obtain rfl := Option.some.inj (show some i = some j from e)
        exact absurd (List.mem_of_getElem? (show is[m']? = some i from e')) ni
    | succ m =>
      cases m' with
      | zero =>
        obtain rfl := Option.some.inj (show some i = some j from e')
        exact absurd (List.mem_of_getElem? (show is[m]? = some i from e)) ni
      | succ m' => rw [nodup_at nd (show is[m]? = some j from e) (show is[m']? = some j from e')]
theorem refs_place : ∀ {zs : List (D ⊕ Nat)} {m m' j : Nat}, nodupB (refsOf zs) = true → zs[m]? = some (.inr j) → zs[m']? = some (.inr j) → m = m'
  | [], m, m', j, _, e, _ => by simp at e
  | .inl d :: zs, m, m', j, nd, e, e' => by
    cases m with
    | zero => cases (show some (Sum.inl d) = some (Sum.inr j) from e)
    | succ m =>
      cases m' with
      | zero => cases (show some (Sum.inl d) = some (Sum.inr j) from e')
      | succ m' => rw [refs_place (zs := zs) nd e e']
  | .inr i :: zs, m, m', j, nd, e, e' => by
    obtain ⟨ni, nd⟩ := nodupB_cons (show nodupB (i :: refsOf zs) = true from nd)
    have mem : ∀ {zs : List (D ⊕ Nat)} {m : Nat} {j : Nat}, zs[m]? = some (.inr j) → j ∈ refsOf zs := by
      intro zs
      induction zs with
      | nil => intro m j e; simp at e
      | cons z zs ih =>
        intro m j e
        cases m with
        | zero =>
          obtain rfl := Option.some.inj (show some z = some (.inr j) from e)
          exact List.mem_cons_self
        | succ m =>
          cases z with
          | inl d => exact ih e
          | inr i => exact List.mem_cons_of_mem _ (ih e)
    cases m with
    | zero =>
      cases m' with
      | zero => rfl
      | succ m' =>
        obtain rfl := Sum.inr.inj (Option.some.inj (show some (Sum.inr i) = some (Sum.inr j) from e))
        exact absurd (mem (show zs[m']? = some (.inr i) from e')) ni
    | succ m =>
      cases m' with
      | zero =>
        obtain rfl := Sum.inr.inj (Option.some.inj (show some (Sum.inr i) = some (Sum.inr j) from e'))
        exact absurd (mem (show zs[m]? = some (.inr i) from e)) ni
      | succ m' => rw [refs_place (zs := zs) nd e e']
/-- behind the call -/
theorem call_back {W1 : Addr → Prop} {sl sl' : Sl} {σ : L2.St} {H H' : Hp} {zs : List (D ⊕ Nat)} {vs : List V} {xs : List Rf.X} {outs : List Cell} (sr : SR c W1 sl σ H) (rz : RZs c.K σ H (un W1 c.C0) zs vs) (nd : nodupB (refsOf zs) = true) (hf : fillArgs sl zs = some xs)
    (hp : putBack sl (refsOf zs) outs = some sl') (keep : ∀ a o, H a = some o → ¬ argW vs xs a → H' a = some o) (trk : ∀ a, un W1 c.C0 a → H' a ≠ none) (ho : OutsR c.K (un W1 c.C0) H' vs xs outs) : Stp W1 H W1 H' ∧ SR c W1 sl' σ H' := by
  have aw : ∀ a, argW vs xs a → W1 a := fun a ⟨m, b, k, e1, e2⟩ => by
    obtain ⟨j, own, _, _, q1, q2⟩ := arg_cell rz hf e1 e2
    obtain ⟨v, e, a', rfl, wa, _⟩ := sr.slot j _ q1
    cases (Option.some.inj (Option.some.inj (q2.symm.trans e)))
    exact wa
  have st : Stp W1 H W1 H' := ⟨fun a o e hw => keep a o e fun z => hw (aw a z), fun _ h => .inl h⟩
  obtain ⟨p1, p2, p3⟩ := putBack_spec hp nd
  refine ⟨st, ⟨trk, by rw [p1]; exact sr.len, fun i x e => ?_, fun i j b b' k k' v e1 e2 e3 e4 => ?_, fun i k v e1 e2 => ?_⟩⟩
  · by_cases hi : i ∈ refsOf zs
    · obtain ⟨m, hm⟩ := List.getElem?_of_mem hi
      obtain ⟨own, k, k', q1, q2, q3⟩ := p3 m i hm
      rw [q3] at e
      obtain rfl := Option.some.inj (Option.some.inj e)
      obtain ⟨a, k2, r1, r2, r3, _⟩ := outs_at rz hf ho hm
      obtain rfl := Option.some.inj (q2.symm.trans r2)
      obtain ⟨v, e', a', rfl, wa, ow, _⟩ := sr.slot i _ q1
      cases (Option.some.inj (Option.some.inj (r1.symm.trans e')))
      exact ⟨_, r1, a, rfl, wa, ow, r3⟩
    · rw [p2 i hi] at e
      obtain ⟨v, e1, r⟩ := sr.slot i x e
      refine ⟨v, e1, ?_⟩
      cases x with
      | d x => exact Rp.step st (show Rp c.K H (un W1 c.C0) v x from r)
      | cell own k =>
        obtain ⟨a, rfl, wa, ow, ca⟩ := r
        refine ⟨a, rfl, wa, ow, ca.grow (fun _ _ q m => Rd.keep st q m) fun o eo => keep a o eo fun ⟨m, b, k', f1, f2⟩ => hi ?_⟩
        obtain ⟨j, own', _, q1, q2, q3⟩ := arg_cell rz hf f1 f2
        rw [sr.inj i j own own' k k' (.ref a) e q2 e1 q3]
        exact q1
      | pin => exact r
  · have old : ∀ {i : Nat} {b : Bool} {k : Cell}, sl'[i]? = some (some (.cell b k)) → ∃ k', sl[i]? = some (some (.cell b k')) := fun {i b k} e => by
      by_cases hi : i ∈ refsOf zs
      · obtain ⟨m, hm⟩ := List.getElem?_of_mem hi
        obtain ⟨own, k1, k2, q1, q2, q3⟩ := p3 m i hm
        rw [q3] at e
        cases Option.some.inj (Option.some.inj e)
        exact ⟨k1, q1⟩
      · rw [p2 i hi] at e
        exact ⟨k, e⟩
    obtain ⟨k1, f1⟩ := old e1
    obtain ⟨k2, f2⟩ := old e2
    exact sr.inj i j b b' k1 k2 v f1 f2 e3 e4
  · by_cases hi : i ∈ refsOf zs
    · obtain ⟨m, hm⟩ := List.getElem?_of_mem hi
      obtain ⟨own, k1, k2, q1, q2, q3⟩ := p3 m i hm
      rw [q3] at e1
      cases Option.some.inj (Option.some.inj e1)
      exact sr.org i k1 v q1 e2
    · rw [p2 i hi] at e1
      exact sr.org i k v e1 e2
theorem snd_call (G : Good tb n c N sc X W) {f : Nat} {x : Str} {p pos : Pos} {e : Expr} {es : List Expr} {as : As} (hf : tb.fname f = some x) (hg : glB sc x = true) (hdb : (x == ("__debug__" : Str)) = false) (hst : (e :: es).all (fun e => !starB e) = true)
    (ha : PA X (e :: es) (tMs c W (evalAs (run tb.prog n) as) (rZs c.K))) : PE X (.Call (.Name x p) (e :: es) [] pos) (tM c W (evalE (run tb.prog n) (.call f as)) (rP c.K)) := by
  obtain ⟨fa, fd, ps, hm, hk, F, hb⟩ := (G.fn f x hf).ex
  have h1 : starB e = false := by
    rw [List.all_cons, Bool.and_eq_true] at hst
    simpa using hst.1
  have h2 : es.all (fun e => !starB e) = true := by
    rw [List.all_cons, Bool.and_eq_true] at hst
    exact hst.2
  refine PE.imp (pe_callS F G.room (gl_of G hg) hm hk hb (E := WE W) (fun σ => passAt G.tk σ) ha hdb (starEach_of h1) (backTo_of h2)) fun σ H Q ⟨W0, sl, sr, q⟩ => ?_
  simp only [evalE] at q
  refine ⟨W0, sl, sr, q.bind.mono fun zs W1 sl1 H1 st1 sr1 q vs rz => ?_⟩
  unfold doCall at q
  split at q
  · rename_i nd
    split at q
    · rename_i xs hxs
      refine ⟨un W1 c.C0, xs, sr1.trk, ?_, ?_, ?_⟩
      · rw [G.hK]; exact args_in sr1 rz hxs
      · intro i j b b' k k' v e1 e2 e3 e4
        obtain ⟨j1, o1, z1, _, q1, q2⟩ := arg_cell rz hxs e1 e3
        obtain ⟨j2, o2, z2, _, q3, q4⟩ := arg_cell rz hxs e2 e4
        obtain rfl := sr1.inj j1 j2 o1 o2 k k' v q1 q3 q2 q4
        exact refs_place nd z1 z2
      · split
        · rename_i d outs hrun
          rw [hrun] at q
          dsimp only at q
          split at q
          · rename_i sl2 hp
            intro v H' keep trk r o
            rw [G.hK] at r o
            obtain ⟨st2, sr2⟩ := call_back sr1 rz nd hxs hp keep trk o
            exact q W1 H' st2 sr2 v r
          · exact q.elim
        · rename_i ec hrun
          rw [hrun] at q
          dsimp only at q
          split at q
          · exact fun H' g => q W1 H' (.grow g) (sr1.grow g)
          · exact q.elim
        · rename_i hrun
          rw [hrun] at q
          exact q.elim
    · exact q.elim
  · exact q.elim
end
end Rf
end
section
set_option linter.all false
set_option maxRecDepth 100000
namespace Rf
open PySem PySem.Spec PyProof.Rows

theorem nDiff_le {κ : Type} [DecidableEq κ] : ∀ l : List κ, nDiff l ≤ l.length
  | [] => Nat.le_refl _
  | x :: r => by
    have := nDiff_le r
    unfold nDiff
    split <;> simp <;> omega
/-- the set's size after the first i of xs -/
def upto {κ : Type} [DecidableEq κ] (xs : List κ) (i : Nat) : Nat := nDiff (xs.take i).reverse
theorem upto_le {κ : Type} [DecidableEq κ] (xs : List κ) (i : Nat) : upto xs i ≤ i := by
  have := nDiff_le (xs.take i).reverse
  simp at this
  unfold upto; omega
theorem take_one_more {κ : Type} (xs : List κ) (d : κ) {i : Nat} (h : i < xs.length) : xs.take (i + 1) = xs.take i ++ [xs.getD i d] := by
  rw [List.take_succ, List.getElem?_eq_getElem h, List.getD_eq_getElem?_getD, List.getElem?_eq_getElem h] <;> rfl
theorem upto_next {κ : Type} [DecidableEq κ] (xs : List κ) (d : κ) {i : Nat} (h : i < xs.length) :
    upto xs (i + 1) = if xs.getD i d ∈ xs.take i then upto xs i else upto xs i + 1 := by
  unfold upto
  rw [take_one_more xs d h, List.reverse_append]
  show nDiff (xs.getD i d :: (xs.take i).reverse) = _
  simp only [nDiff, List.mem_reverse]

section
variable {prog : Program} {w : World} {A : Around} {R : Result → Shared → Prop} {I : Addr} {fp wr : List Addr} {G : Array GenState → Array GenState → Prop} {n : Nat} {P : Nat → Value → Prop} {St : Nat → Shared → Prop}
variable {κ : Type} [DecidableEq κ]

/-- the set S holds just the first i of xs -/
def Holds (knd : KeyKind prog w κ) (h : Heap) (S : Addr) (xs : List κ) (i : Nat) : Prop := h.SetOf knd S (fun q => decide (q ∈ xs.take i)) (upto xs i)
theorem Holds.carry {knd : KeyKind prog w κ} {h h' : Heap} {S : Addr} {xs : List κ} {i : Nat} (a : Holds knd h S xs i) (k : ∀ o, h.get? S = some o → h'.get? S = some o) : Holds knd h' S xs i := by
  obtain ⟨o, es, ep, t, ho, rest⟩ := a
  exact ⟨o, es, ep, t, k o ho, rest⟩

theorem fill_set (knd : KeyKind prog w κ) (W : WalksS prog w A.in1 I fp wr G n P St) (S : Addr) (apart : S ∉ fp) (xs : List κ) (d : κ) (len : xs.length = n) (few : n + 1 < scanBound)
    (each : ∀ i v, P i v → knd.is (xs.getD i d) v = true ∧ v.scannable = true) :
    ∀ (todo i : Nat) (s : Shared), todo + i = n → St i s → Holds knd s.heap S xs i →
      (∀ s', Moved (S :: wr) G s s' → Holds knd s'.heap S xs n → R (.ok (.ret .none)) s') →
      codeAny (model prog w) A (.builtin "set.update.loop" ⟨[.ref S, .ref I], []⟩) R s := by
  have notIn : S ∉ wr := fun z => apart (W.sub _ z)
  have wider : ∀ b ∈ wr, b ∈ S :: wr := fun b z => List.mem_cons_of_mem _ z
  intro todo
  induction todo with
  | zero =>
    intro i s sum st hs goal
    obtain rfl : i = n := by omega
    refine codeAny_builtin F.entry_set_update_loop ?_
    rw [Around.under_plainId F.plain_set_update_loop _]
    show wpAny _ A.in1 (pyNext (.ref I) >>= _) _ _ s
    refine wpAny_bind (W.done s _ _ st fun s' mv => ?_)
    show wpAny _ A.in1 (ret Value.none) _ _ s'
    exact wpAny_pure (goal s' (mv.mono wider) (hs.carry fun o e => mv.heap S _ notIn e))
  | succ todo again =>
    intro i s sum st hs goal
    have lt : i < n := by omega
    refine codeAny_builtin F.entry_set_update_loop ?_
    rw [Around.under_plainId F.plain_set_update_loop _]
    show wpAny _ A.in1 (pyNext (.ref I) >>= _) _ _ s
    refine wpAny_bind (W.item i s _ _ lt st fun v s' pv st' mv => ?_)
    obtain ⟨key, sc⟩ := each i v pv
    have hs' := hs.carry fun o e => mv.heap S _ notIn e
    show wpAny _ A.in1 (holding [v] (setAdd S v) >>= _) _ _ s'
    refine wpAny_bind (wpAny_holding ?_)
    unfold setAdd
    refine wpAny_holding ?_
    refine wpAny_bind (knd.pyHash (k := xs.getD i d) key ?_)
    have small := upto_le xs i
    refine wpAny_setAddHashed_of (knd := knd) (s := { s' with toks := s'.toks + 1 }) key sc hs' (by omega) fun h' but more => ?_
    have now : Holds knd h' S xs (i + 1) := by
      refine SetOf_congr more (fun q => ?_) ?_
      · rw [take_one_more xs d (by omega)]
        by_cases c : q = xs.getD i d <;> simp [c]
      · rw [upto_next xs d (by omega)]
        by_cases c : xs.getD i d ∈ xs.take i <;> simp [c]
    refine wpAny_pure ⟨plainId_quiet F.plain_set_update_loop _, again (i + 1) _ (by omega) (W.frame _ s' _ _ st' (Nat.le_succ _) fun b z o e => ?_) now fun s'' mv' hs'' => ?_⟩
    · rw [but.2 b (fun c : b = S => apart (by rw [← c]; exact z))]; exact e
    · refine goal s'' (Moved.trans W.gtrans ((mv.mono wider).then_heap (Nat.le_succ _) fun b o z e => ?_) mv') hs''
      rw [but.2 b (fun c : b = S => z (by rw [c]; exact List.mem_cons_self))]; exact e
end

open PySem.F in
section
variable {prog : Program} {w : World} {A : Around} {E : Value → Shared → Prop} {s : Shared} {κ : Type} [DecidableEq κ]
/-- a new set's object -/
def bare (led : Bool) : Obj := { cls := .type "set", dict := none, data := .set #[] 0 (.fresh 0 0 led) }
set_option maxHeartbeats 3200000 in
theorem set_made_list (knd : KeyKind prog w κ) {src : Addr} {items : Array Value} {xs : List κ} (d : κ) {Q : Value → Shared → Prop} (calm : A.handled = none) (seq : s.heap.IsList src items) (len : xs.length = items.size) (few : items.size + 1 < scanBound)
    (each : ∀ i v, items[i]? = some v → knd.is (xs.getD i d) v = true ∧ v.scannable = true)
    (goal : ∀ (h' : Heap) (tk : Nat), Holds knd h' s.heap.objs.size xs items.size → (∀ b o, b < s.heap.objs.size → s.heap.get? b = some o → h'.get? b = some o) → Q (.ref s.heap.objs.size) { s with heap := h', toks := tk }) :
    wpAny (model prog w) A (call (.type "set") [.ref src]) Q E s := by
  have made := PySem.F.called_set.made
  obtain ⟨c0, c1, mro⟩ := PySem.F.called_set.mro
  have below := PySem.F.called_set.sub
  refine wpAny_call (codeAny_of_tree ?_)
  show wpAny _ _ (callAny (.type "set") _) _ _ _
  refine wpAny_pure ⟨Code.quiet_builtin _ (by decide +kernel), codeAny_builtin PySem.F.entry_type_call ?_⟩
  rw [Around.under_plain (weight_type_call_type "set" [.ref src] []) rfl]
  have no1 := PySem.F.called_set.notType
  have yes2 := PySem.F.called_set.canCreate
  have checked := PySem.F.typeCall_set_1 (.ref src)
  repeat any_goals first | assumption | wp_step
  refine codeAny_mono (code_set_new_1 (.ref src) (E := E) (Q₁ := fun ob t => ∃ led : Bool, ob = .ref s.heap.objs.size ∧ t = { s with heap := s.heap.push (bare led) }) fun led => ⟨led, rfl, rfl⟩) fun z t hz => ?_
  cases z with
  | error e => exact hz
  | ok fl =>
    cases fl with
    | ret ob =>
      obtain ⟨led, rfl, rfl⟩ := hz
      have there : (s.heap.push (bare led)).get? s.heap.objs.size = some (bare led) := Heap.get?_push_size _ rfl
      have isSet : Shared.TypeIs { s with heap := s.heap.push (bare led) } (.ref s.heap.objs.size) "set" := ⟨_, there, rfl⟩
      have ini := PySem.F.called_set.init.lookup
      have inb := PySem.F.called_set.init.bind (.ref s.heap.objs.size)
      repeat any_goals first | assumption | wp_step
      refine codeAny_mono (codeAny_call_builtin (R := wants (fun z t => z = .none ∧ ∃ h' tk, t = { s with heap := h', toks := tk } ∧ Holds knd h' s.heap.objs.size xs items.size ∧
          (∀ b o, b < s.heap.objs.size → s.heap.get? b = some o → h'.get? b = some o)) E) PySem.F.called_set.init.plain PySem.F.entry_set_init (check_set_init_1 isSet ?_)) fun z2 t2 hz2 => ?_
      · obtain ⟨⟨oc, od, odt, osl⟩, at0, is1, k0, is2⟩ := seq
        simp only at is1 is2
        subst is1 is2
        have lt0 : src < s.heap.objs.size := Heap.lt_size at0
        have at1 : (s.heap.push (bare led)).get? src = some { cls := .type "list", dict := od, data := .seq items k0, slots := osl } := Heap.get?_push_of_some _ at0
        have not1 := PySem.F.sub_list_set
        have not2 := PySem.F.sub_list_frozenset
        have not3 : (Value.type "list" == Value.type "dict") = false := by decide
        have seq1 : (s.heap.push (bare led)).IsList src items := ⟨_, at1, rfl, k0, rfl⟩
        unfold Builtin.«set.__init__» noKeywords Builtin.Frozenset.updateFrom
        generalize hit : pyIter = it
        wp_walk
        subst hit
        refine wpAny_pyIter_list seq1 ?_
        refine wpAny_bind (wpAny_runValue ?_)
        have size1 : (s.heap.push (bare led)).objs.size = s.heap.objs.size + 1 := Heap.size_push ..
        have apart : src ≠ (s.heap.push (bare led)).objs.size := by rw [size1]; exact Nat.ne_of_lt (Nat.lt_succ_of_lt lt0)
        have calm3 : A.in1.in1.in1.handled = none := by simp [calm]
        refine fill_set knd ((Walks.list calm3 _ src apart items).toS) s.heap.objs.size ?_ xs d len few each items.size 0 _ (by omega) ⟨⟨_, Heap.get?_push_size _ rfl, rfl, rfl⟩, (seq1.push _)⟩ ?_ ?_
        · rw [size1]
          simp only [List.mem_cons, List.not_mem_nil, or_false, not_or]
          exact ⟨Nat.ne_of_lt (Nat.lt_succ_self _), Nat.ne_of_gt lt0⟩
        · refine SetOf_congr ((PyProof.Rows.setObjOf_fresh (knd := knd) led).setOf (Heap.get?_push_of_some _ there) (by unfold scanBound; omega)) (fun q => ?_) ?_
          · simp
          · simp [upto, nDiff]
        · intro t mv full
          obtain ⟨h', g', d', k', o'⟩ := t
          have e1 : g' = s.gens := mv.gens
          have e2 : d' = s.drawn := mv.drawn
          have e3 : o' = s.os := mv.os
          subst e1 e2 e3
          show wpAny _ _ _ _ _ _
          refine wpAny_pure ?_
          show wpAny _ _ (ret Value.none) _ _ _
          refine wpAny_pure ⟨rfl, h', k', rfl, full, fun b o lt e => ?_⟩
          refine mv.heap b o ?_ (Heap.get?_push_of_some _ (Heap.get?_push_of_some _ e))
          rw [size1]
          simp only [List.mem_cons, List.not_mem_nil, or_false, not_or]
          exact ⟨Nat.ne_of_lt lt, Nat.ne_of_lt (Nat.lt_succ_of_lt lt)⟩
      · cases z2 with
        | error e => exact hz2
        | ok fl2 =>
          cases fl2 with
          | ret v2 =>
            obtain ⟨rfl, h', tk, rfl, full, kept⟩ := hz2
            repeat any_goals first | assumption | wp_step
            exact goal h' _ full kept
          | _ => exact hz2.elim
    | _ => exact hz.elim
set_option maxHeartbeats 3200000 in
theorem set_made_tuple (knd : KeyKind prog w κ) {src : Addr} {items : Array Value} {xs : List κ} (d : κ) {Q : Value → Shared → Prop} (calm : A.handled = none) (seq : s.heap.IsTuple src items) (len : xs.length = items.size) (few : items.size + 1 < scanBound)
    (each : ∀ i v, items[i]? = some v → knd.is (xs.getD i d) v = true ∧ v.scannable = true)
    (goal : ∀ (h' : Heap) (tk : Nat), Holds knd h' s.heap.objs.size xs items.size → (∀ b o, b < s.heap.objs.size → s.heap.get? b = some o → h'.get? b = some o) → Q (.ref s.heap.objs.size) { s with heap := h', toks := tk }) :
    wpAny (model prog w) A (call (.type "set") [.ref src]) Q E s := by
  have made := PySem.F.called_set.made
  obtain ⟨c0, c1, mro⟩ := PySem.F.called_set.mro
  have below := PySem.F.called_set.sub
  refine wpAny_call (codeAny_of_tree ?_)
  show wpAny _ _ (callAny (.type "set") _) _ _ _
  refine wpAny_pure ⟨Code.quiet_builtin _ (by decide +kernel), codeAny_builtin PySem.F.entry_type_call ?_⟩
  rw [Around.under_plain (weight_type_call_type "set" [.ref src] []) rfl]
  have no1 := PySem.F.called_set.notType
  have yes2 := PySem.F.called_set.canCreate
  have checked := PySem.F.typeCall_set_1 (.ref src)
  repeat any_goals first | assumption | wp_step
  refine codeAny_mono (code_set_new_1 (.ref src) (E := E) (Q₁ := fun ob t => ∃ led : Bool, ob = .ref s.heap.objs.size ∧ t = { s with heap := s.heap.push (bare led) }) fun led => ⟨led, rfl, rfl⟩) fun z t hz => ?_
  cases z with
  | error e => exact hz
  | ok fl =>
    cases fl with
    | ret ob =>
      obtain ⟨led, rfl, rfl⟩ := hz
      have there : (s.heap.push (bare led)).get? s.heap.objs.size = some (bare led) := Heap.get?_push_size _ rfl
      have isSet : Shared.TypeIs { s with heap := s.heap.push (bare led) } (.ref s.heap.objs.size) "set" := ⟨_, there, rfl⟩
      have ini := PySem.F.called_set.init.lookup
      have inb := PySem.F.called_set.init.bind (.ref s.heap.objs.size)
      repeat any_goals first | assumption | wp_step
      refine codeAny_mono (codeAny_call_builtin (R := wants (fun z t => z = .none ∧ ∃ h' tk, t = { s with heap := h', toks := tk } ∧ Holds knd h' s.heap.objs.size xs items.size ∧
          (∀ b o, b < s.heap.objs.size → s.heap.get? b = some o → h'.get? b = some o)) E) PySem.F.called_set.init.plain PySem.F.entry_set_init (check_set_init_1 isSet ?_)) fun z2 t2 hz2 => ?_
      · obtain ⟨⟨oc, od, odt, osl⟩, at0, is1, k0, is2⟩ := seq
        simp only at is1 is2
        subst is1 is2
        have lt0 : src < s.heap.objs.size := Heap.lt_size at0
        have at1 : (s.heap.push (bare led)).get? src = some { cls := .type "tuple", dict := od, data := .seq items k0, slots := osl } := Heap.get?_push_of_some _ at0
        have not1 := PySem.F.sub_tuple_set
        have not2 := PySem.F.sub_tuple_frozenset
        have not3 : (Value.type "tuple" == Value.type "dict") = false := by decide
        have seq1 : (s.heap.push (bare led)).IsTuple src items := ⟨_, at1, rfl, k0, rfl⟩
        unfold Builtin.«set.__init__» noKeywords Builtin.Frozenset.updateFrom
        generalize hit : pyIter = it
        wp_walk
        subst hit
        refine wpAny_pyIter_tuple seq1 ?_
        refine wpAny_bind (wpAny_runValue ?_)
        have size1 : (s.heap.push (bare led)).objs.size = s.heap.objs.size + 1 := Heap.size_push ..
        have apart : src ≠ (s.heap.push (bare led)).objs.size := by rw [size1]; exact Nat.ne_of_lt (Nat.lt_succ_of_lt lt0)
        have calm3 : A.in1.in1.in1.handled = none := by simp [calm]
        refine fill_set knd ((Walks.tuple calm3 _ src apart items).toS) s.heap.objs.size ?_ xs d len few each items.size 0 _ (by omega) ⟨⟨_, Heap.get?_push_size _ rfl, rfl, rfl⟩, (seq1.push _)⟩ ?_ ?_
        · rw [size1]
          simp only [List.mem_cons, List.not_mem_nil, or_false, not_or]
          exact ⟨Nat.ne_of_lt (Nat.lt_succ_self _), Nat.ne_of_gt lt0⟩
        · refine SetOf_congr ((PyProof.Rows.setObjOf_fresh (knd := knd) led).setOf (Heap.get?_push_of_some _ there) (by unfold scanBound; omega)) (fun q => ?_) ?_
          · simp
          · simp [upto, nDiff]
        · intro t mv full
          obtain ⟨h', g', d', k', o'⟩ := t
          have e1 : g' = s.gens := mv.gens
          have e2 : d' = s.drawn := mv.drawn
          have e3 : o' = s.os := mv.os
          subst e1 e2 e3
          show wpAny _ _ _ _ _ _
          refine wpAny_pure ?_
          show wpAny _ _ (ret Value.none) _ _ _
          refine wpAny_pure ⟨rfl, h', k', rfl, full, fun b o lt e => ?_⟩
          refine mv.heap b o ?_ (Heap.get?_push_of_some _ (Heap.get?_push_of_some _ e))
          rw [size1]
          simp only [List.mem_cons, List.not_mem_nil, or_false, not_or]
          exact ⟨Nat.ne_of_lt lt, Nat.ne_of_lt (Nat.lt_succ_of_lt lt)⟩
      · cases z2 with
        | error e => exact hz2
        | ok fl2 =>
          cases fl2 with
          | ret v2 =>
            obtain ⟨rfl, h', tk, rfl, full, kept⟩ := hz2
            repeat any_goals first | assumption | wp_step
            exact goal h' _ full kept
          | _ => exact hz2.elim
    | _ => exact hz.elim
end
end Rf
end
section
set_option linter.all false
set_option maxRecDepth 100000
set_option maxHeartbeats 1000000
namespace Rf
open PySem PySem.Spec PyProof.Rows L2
section
variable {tb : Tab} {n : Nat} {c : Cfg} {N : List Str} {sc : Scope} {X : Cx} {W : WX}
theorem snd_glob (G : Good tb n c N sc X W) {g : Nat} {x : Str} {p : Pos} {Γ} (hx : tb.gname g = some x) (hg : glB sc x = true) (hd : (x == ("__debug__" : Str)) = false) : PE X (.Name x p) (tM c W (evalE Γ (.glob g)) (rP c.K)) := by
  obtain ⟨u, v, d, h1, h2, h3, h4⟩ := (G.glb g x hx).ex
  refine PE.imp (pe_glob (gl_of G hg) h1 h2 hd) fun σ H Q ⟨W0, sl, sr, q⟩ => ?_
  simp only [evalE, h3] at q
  rw [G.hK] at h4
  exact q.now sr v (h4 _ _)
theorem rels_some {r : Option Value} {o : Option Str} (h : RelS r o) : r.isSome = o.isSome := by cases h <;> rfl
theorem lookup_any {k : Str} : ∀ l : List (Str × Str), (l.lookup k).isSome = l.any fun p => p.1 == k
  | [] => rfl
  | (a, b) :: r => by
    rw [List.lookup_cons, List.any_cons, ← lookup_any r]
    by_cases e : k = a
    · subst e; simp
    · have e1 : (k == a) = false := by simpa using e
      have e2 : (a == k) = false := by simpa using fun z => e z.symm
      rw [e1]; simp [e2]
theorem snd_gin (G : Good tb n c N sc X W) {x : Str} {e : Expr} {p pos : Pos} {a : L} {neg : Bool} {Γ} (hx : tb.sname = some x) (hg : glB sc x = true) (hd : (x == ("__debug__" : Str)) = false) (ha : PE X e (tM c W (evalE Γ a) (rP c.K))) :
    PE X (.Compare e [if neg then .NotIn else .In] [.Name x p] pos) (tM c W (evalE Γ (.gin neg a)) (rP c.K)) := by
  obtain ⟨d, es, k, h1, h2, h3⟩ := (G.sgn x hx).ex
  have pg : PE X (.Name x p) (tC (.ref d)) := pe_glob (gl_of G hg) h1 rfl hd
  cases neg with
  | false =>
    refine PE.imp (pe_cmpR (op_in_kd h2) ha pg (by rfl)) fun σ H Q ⟨W0, sl, sr, q⟩ => ?_
    simp only [evalE] at q
    refine ⟨W0, sl, sr, q.bind.mono fun y W1 sl1 H1 st1 sr1 q v rv => ?_⟩
    split at q
    · rename_i z
      obtain ⟨rfl, _⟩ := (Rt.rp (show Rp c.K H1 (un W1 c.C0) v (.str z) from rv)).str
      obtain ⟨r, e1, e2⟩ := h3 z
      refine ⟨z, r, rfl, rfl, e1, ?_⟩
      rw [rels_some e2, lookup_any]
      exact q.now sr1 _ (.bl _)
    · exact q.elim
  | true =>
    refine PE.imp (pe_cmpR (op_notIn_kd h2) ha pg (by rfl)) fun σ H Q ⟨W0, sl, sr, q⟩ => ?_
    simp only [evalE] at q
    refine ⟨W0, sl, sr, q.bind.mono fun y W1 sl1 H1 st1 sr1 q v rv => ?_⟩
    split at q
    · rename_i z
      obtain ⟨rfl, _⟩ := (Rt.rp (show Rp c.K H1 (un W1 c.C0) v (.str z) from rv)).str
      obtain ⟨r, e1, e2⟩ := h3 z
      refine ⟨z, r, rfl, rfl, e1, ?_⟩
      rw [rels_some e2, lookup_any]
      exact q.now sr1 _ (.bl _)
    · exact q.elim
theorem snd_gget (G : Good tb n c N sc X W) {x : Str} {e : Expr} {p pos : Pos} {a : L} {Γ} (hx : tb.sname = some x) (hg : glB sc x = true) (hd : (x == ("__debug__" : Str)) = false) (hs : sliceB e = false) (ha : PE X e (tM c W (evalE Γ a) (rP c.K))) :
    PE X (.Subscript (.Name x p) e pos) (tM c W (evalE Γ (.gget a)) (rP c.K)) := by
  obtain ⟨d, es, k, h1, h2, h3⟩ := (G.sgn x hx).ex
  have pg : PE X (.Name x p) (tC (.ref d)) := pe_glob (gl_of G hg) h1 rfl hd
  have hpl : PlainIx e := fun o i => by cases e <;> first | rfl | (cases (show true = false from hs))
  refine PE.imp (pe_ix ix_kdict pg ha hpl) fun σ H Q ⟨W0, sl, sr, q⟩ => ?_
  simp only [evalE] at q
  refine ⟨W0, sl, sr, q.bind.mono fun y W1 sl1 H1 st1 sr1 q v rv => ?_⟩
  split at q
  · rename_i z
    obtain ⟨rfl, _⟩ := (Rt.rp (show Rp c.K H1 (un W1 c.C0) v (.str z) from rv)).str
    obtain ⟨r, e1, e2⟩ := h3 z
    obtain ⟨y, hy, q⟩ := q.of
    obtain ⟨w, hw, rfl⟩ := Option.map_eq_some_iff.mp hy
    rw [hw] at e2
    cases e2 with | some hl =>
    exact ⟨d, z, .str w, rfl, rfl, ⟨es, k, _, h2.at_, h2.lit, e1, ⟨_, rfl⟩⟩, q.now sr1 _ (.str _ hl)⟩
  · exact q.elim
theorem upto_all {κ : Type} [DecidableEq κ] (xs : List κ) {i : Nat} (h : xs.length = i) : upto xs i = nDiff xs.reverse := by
  unfold upto; rw [← h, List.take_length]
theorem nDiff_perm {κ : Type} [DecidableEq κ] : ∀ {l l' : List κ}, l.Perm l' → nDiff l = nDiff l' := by
  intro l l' p
  induction p with
  | nil => rfl
  | cons x p ih => unfold nDiff; rw [ih]; simp only [p.mem_iff]
  | swap x y l =>
    simp only [nDiff, List.mem_cons]
    by_cases e : y = x
    · subst e
      by_cases h1 : y ∈ l <;> simp [h1]
    · have e' : ¬ x = y := fun z => e z.symm
      by_cases h1 : y ∈ l <;> by_cases h2 : x ∈ l <;> simp [h1, h2, e, e']
  | trans _ _ ih1 ih2 => exact ih1.trans ih2
theorem strs_vals {K : PySem.W.Frag} {H : Hp} {C : Addr → Prop} : ∀ {ds : List D} {xs : List V} {us : List Value} {ss : List Str}, strsOf ds = some ss → RpAll K H C xs ds → Vals xs us → ss.length = us.length ∧ ∀ (i : Nat) (v : Value), us[i]? = some v → ∃ t, v = .str (ss.getD i Str.empty) t
  | [], _, _, _, h, .nil, .nil => by obtain rfl := Option.some.inj h; exact ⟨rfl, fun i v e => by simp at e⟩
  | d :: ds, _, _, _, h, .cons r t, .cons ru tu => by
    cases d with
    | str x =>
      obtain ⟨ss, hs, rfl⟩ := Option.map_eq_some_iff.mp (show (strsOf ds).map (x :: ·) = some _ from h)
      obtain ⟨h1, h2⟩ := strs_vals hs t tu
      cases r
      obtain ⟨k, rfl⟩ := ru
      refine ⟨by simp [h1], fun i v e => ?_⟩
      cases i with
      | zero => exact ⟨k, (Option.some.inj (show some _ = some v from e)).symm⟩
      | succ i => exact h2 i v (by simpa using e)
    | _ => cases h
theorem snd_lenset (G : Good tb n c N sc X W) {p p2 q pos : Pos} {e : Expr} {z : Z} {Γ} (hg : glB sc "len" = true) (hgt : glB sc "set" = true) (hs : starB e = false) (he : PE X e (tM c W (evalZ Γ z) (rZ c.K))) :
    PE X (.Call (.Name "len" p) [.Call (.Name "set" p2) [e] [] q] [] pos) (tM c W (evalE Γ (.bi .lenset (.cons z .nil))) (rP c.K)) := by
  refine ⟨fun pins s σ H Q I h => ?_⟩
  refine Call_ (ld_blt I (gl_of G hg) (G.blt _ (by decide +kernel)) PySem.boot_len ?_)
  refine callWith_builtin1 (args_cons ?_ rfl) rfl rfl
  refine Call_ (ld_blt I (gl_of G hgt) (G.blt _ (by decide +kernel)) boot_set ?_)
  obtain ⟨W0, sl, sr, hq⟩ := h
  simp only [evalE, evalAs] at hq
  have hK := G.hK
  refine callWith_type1 (args_cons (thn (he.run pins s σ H (fun v H1 => ∃ C ds b, Rt X.K H1 C v ds ∧ bLenset [ds] = some b ∧ Made c.K C H1 b Q) I ⟨W0, sl, sr, hq.bind.bind.mono fun z1 W1 sl1 H1 st1 sr1 hq v rv => ?_⟩) fun v s1 ⟨x, H1, I1, r1, C, ds, b, rd, hb, made⟩ => args_nil ?_) (starEach_of hs)) (starEach_of hs) rfl
  · obtain ⟨b, hb, hq⟩ := (hq.now sr1).of
    obtain ⟨ds, h1, hb⟩ := Option.bind_eq_some_iff.mp hb
    obtain ⟨d, hd, h1⟩ := Option.bind_eq_some_iff.mp (show (zD sl1 z1).bind (fun x => (resolve sl1 []).map (x :: ·)) = some ds from h1)
    obtain rfl := Option.some.inj (show some [d] = some ds from h1)
    refine ⟨_, d, b, by rw [hK]; exact sr1.zd rv hd, hb, made_of sr1 hq⟩
  · unfold bLenset at hb
    split at hb
    · rename_i ys e1
      cases e1
      obtain ⟨ss, hss, hb⟩ := Option.bind_eq_some_iff.mp hb
      split at hb
      · rename_i few
        obtain rfl := Option.some.inj hb
        obtain ⟨a, xs, rfl, sa, ra⟩ := rd.list
        cases r1
        obtain ⟨its, rl, pl, _⟩ := I1.list sa
        obtain ⟨g1, g2⟩ := strs_vals hss ra rl
        refine set_made_list (strKind X.prog X.w) Str.empty (I1.ok.hd G.calm) pl.isList (xs := ss) (by simpa using g1) (by simp; unfold scanBound; omega) (fun i v e => ?_) fun h' tk full kept => ?_
        · obtain ⟨t, rfl⟩ := g2 i v (by simpa using e)
          exact ⟨strKind_is _ _ _ _, rfl⟩
        · refine args_nil ?_
          obtain ⟨o, es, ep, t, ho, hex, hd, _, _, _, hf, hn⟩ := full
          have I2 : Inv X pins σ H1 { s1 with heap := h', toks := tk } := I1.kept fun b o e => kept b o (Heap.lt_size e) e
          have hu := upto_all ss (i := its.toArray.size) (by simpa using g1)
          rw [hu, nDiff_perm (List.reverse_perm ss)] at hn
          have le := nDiff_le ss
          refine call_len_set ho hex hd hf (by rw [hn]; omega) ⟨.int (nDiff ss), H1, I2.tok _, ⟨_, by rw [hn]⟩, made.same (.int _)⟩
      · cases hb
    · rename_i ys e1
      cases e1
      obtain ⟨ss, hss, hb⟩ := Option.bind_eq_some_iff.mp hb
      split at hb
      · rename_i few
        obtain rfl := Option.some.inj hb
        obtain ⟨a, xs, rfl, sa, ra, _⟩ := rd.tuple
        cases r1
        obtain ⟨its, rl, pl, _⟩ := I1.tuple sa
        obtain ⟨g1, g2⟩ := strs_vals hss ra rl
        refine set_made_tuple (strKind X.prog X.w) Str.empty (I1.ok.hd G.calm) (show s1.heap.IsTuple a its.toArray from pl) (xs := ss) (by simpa using g1) (by simp; unfold scanBound; omega) (fun i v e => ?_) fun h' tk full kept => ?_
        · obtain ⟨t, rfl⟩ := g2 i v (by simpa using e)
          exact ⟨strKind_is _ _ _ _, rfl⟩
        · refine args_nil ?_
          obtain ⟨o, es, ep, t, ho, hex, hd, _, _, _, hf, hn⟩ := full
          have I2 : Inv X pins σ H1 { s1 with heap := h', toks := tk } := I1.kept fun b o e => kept b o (Heap.lt_size e) e
          have hu := upto_all ss (i := its.toArray.size) (by simpa using g1)
          rw [hu, nDiff_perm (List.reverse_perm ss)] at hn
          have le := nDiff_le ss
          refine call_len_set ho hex hd hf (by rw [hn]; omega) ⟨.int (nDiff ss), H1, I2.tok _, ⟨_, by rw [hn]⟩, made.same (.int _)⟩
      · cases hb
    · cases hb
end
end Rf
end
section
set_option linter.all false
set_option maxRecDepth 100000
set_option maxHeartbeats 1000000
namespace Rf
open PySem PySem.Spec PyProof.Rows L2

/-- an iterator serves these data, as long as its source stands -/
structure Srv (K : PySem.W.Frag) (J : It) (ds : List D) (src : (Addr → Prop) → Hp → Prop) : Prop where
  step : ∀ {C H C' H'}, (∀ a u, Rd H a u → ¬ C a → Rd H' a u ∧ ¬ C' a) → src C H → src C' H'
  go : ∀ {i : Nat} {C H}, src C H → i < ds.length → J.go i H
  stop : ∀ {i : Nat} {C H}, src C H → i = ds.length → J.stop i H
  yld : ∀ {i : Nat} {C H x H' d}, src C H → (∀ a, C a → H a ≠ none) → ds[i]? = some d → J.yld i H x H' → (∀ a o, H a = some o → H' a = some o) ∧ Rp K H' C x d
def tI (c : Cfg) (Wx : WX) (m : Sl → R (List D)) : TI := fun σ H R => ∃ W sl, SR c W sl σ H ∧ WP c Wx σ W H (m sl) fun ds W' sl' H' => ∀ J src, Srv c.K J ds src → src (un W' c.C0) H' → R J H'

section
variable {tb : Tab} {n : Nat} {c : Cfg} {N : List Str} {sc : Scope} {X : Cx} {W : WX}
theorem srv_list {a : Addr} {ds : List D} (K K' : PySem.W.Frag) (hK : K = K') : Srv K' (Itl K a) ds fun C H => Rp K' H C (.ref a) (.list ds) where
  step := fun st h => h.mono st
  go := fun {i C H} h hi => by
    subst hK
    cases h with | lst s r =>
    have hl := r.length
    exact ⟨_, _, s.sq, List.getElem?_eq_getElem (by omega)⟩
  stop := fun {i C H} h hi => by
    subst hK
    cases h with | lst s r =>
    have hl := r.length
    exact ⟨_, s.sq, by omega⟩
  yld := fun {i C H x H' d} h _ hd hy => by
    subst hK
    obtain ⟨rfl, hy⟩ := hy
    cases h with | lst s r =>
    obtain ⟨u, hu, ru⟩ := r.get hd
    obtain rfl := Option.some.inj ((hy _ s.sq).symm.trans hu)
    exact ⟨fun _ _ e => e, ru⟩
theorem srv_tup {a : Addr} {ds : List D} (K K' : PySem.W.Frag) (hK : K = K') : Srv K' (Itt K a) ds fun C H => Rp K' H C (.ref a) (.tuple ds) where
  step := fun st h => h.mono st
  go := fun {i C H} h hi => by
    subst hK
    cases h with | tup s r =>
    have hl := r.length
    exact ⟨_, _, s.sq, List.getElem?_eq_getElem (by omega)⟩
  stop := fun {i C H} h hi => by
    subst hK
    cases h with | tup s r =>
    have hl := r.length
    exact ⟨_, s.sq, by omega⟩
  yld := fun {i C H x H' d} h _ hd hy => by
    subst hK
    obtain ⟨rfl, hy⟩ := hy
    cases h with | tup s r =>
    obtain ⟨u, hu, ru⟩ := r.get hd
    obtain rfl := Option.some.inj ((hy _ s.sq).symm.trans hu)
    exact ⟨fun _ _ e => e, ru⟩
theorem srv_str {K : PySem.W.Frag} {x : Str} : Srv K (Its x) (signs x) fun _ _ => True where
  step := fun _ h => h
  go := fun {i C H} _ hi => by
    unfold signs at hi
    rw [List.length_map, Array.length_toList] at hi
    exact hi
  stop := fun {i C H} _ hi => by
    unfold signs at hi
    rw [List.length_map, Array.length_toList] at hi
    exact Nat.le_of_eq hi.symm
  yld := fun {i C H v H' d} _ _ hd hy => by
    obtain ⟨rfl, k, hk, rfl⟩ := hy
    unfold signs at hd
    rw [List.getElem?_map, Array.getElem?_toList, hk] at hd
    obtain rfl := Option.some.inj hd
    exact ⟨fun _ _ e => e, .str _ (by show 1 ≤ sizeLine; decide)⟩
theorem srv_range {K : PySem.W.Frag} {lo : Int} {k : Nat} : Srv K (Itr lo k) (rangeD lo k) fun _ _ => True where
  step := fun _ h => h
  go := fun {i C H} _ hi => by
    unfold rangeD at hi
    rw [List.length_map, List.length_range] at hi
    exact hi
  stop := fun {i C H} _ hi => by
    unfold rangeD at hi
    rw [List.length_map, List.length_range] at hi
    exact Nat.le_of_eq hi.symm
  yld := fun {i C H v H' d} _ _ hd hy => by
    obtain ⟨rfl, rfl⟩ := hy
    unfold rangeD at hd
    have hi := (List.getElem?_eq_some_iff.mp hd).1
    rw [List.length_map, List.length_range] at hi
    rw [List.getElem?_map, List.getElem?_range hi] at hd
    obtain rfl := Option.some.inj hd
    exact ⟨fun _ _ e => e, .int _⟩

theorem snd_seq {e tg : Expr} {a : L} {Γ} (hK : X.K = c.K) (he : PE X e (tM c W (evalE Γ a) (rP c.K))) : PI X tg e (tI c W (evalI Γ (.seq a))) := by
  refine ⟨fun pins s σ H R I ⟨W0, sl, sr, q⟩ => ?_⟩
  simp only [evalI] at q
  have lists : (∀ d sl1, evalE Γ a sl = .ok d sl1 → ∃ ds, d = .list ds) → wpAny (model X.prog X.w) X.A (eval e X.env) (fun v s1 => wpAny (model X.prog X.w) X.A (pyIter v) (PIE X pins σ tg R) X.xe s1) X.xe s := fun hl => by
    refine (pi_list (tg := tg) he).run pins s σ H R I ⟨W0, sl, sr, ?_⟩
    cases q1 : evalE Γ a sl with
    | ok d sl1 =>
      rw [q1] at q
      obtain ⟨ds, rfl⟩ := hl d sl1 q1
      intro W1 H1 st sr1 v rv
      have rv : Rp c.K H1 (un W1 c.C0) v (.list ds) := rv
      have rv' := rv
      cases rv with | lst s0 r0 =>
      exact ⟨_, rfl, ⟨_, by rw [hK]; exact s0.sq⟩, q W1 H1 st sr1 _ _ (srv_list X.K _ hK) rv'⟩
    | exc e sl1 => rw [q1] at q; exact q
    | stuck => rw [q1] at q; exact q
  cases q1 : evalE Γ a sl with
  | stuck => rw [q1] at q; exact q.elim
  | exc e sl1 => exact lists fun d sl1 h => by rw [q1] at h; cases h
  | ok d sl1 =>
    cases d with
    | list ds => exact lists fun d sl2 h => by rw [q1] at h; cases h; exact ⟨_, rfl⟩
    | tuple ds =>
      refine (pi_tup (tg := tg) he).run pins s σ H R I ⟨W0, sl, sr, ?_⟩
      rw [q1] at q ⊢
      intro W1 H1 st sr1 v rv
      have rv : Rp c.K H1 (un W1 c.C0) v (.tuple ds) := rv
      have rv' := rv
      cases rv with | tup s0 r0 =>
      exact ⟨_, rfl, ⟨_, by rw [hK]; exact s0.sq⟩, q W1 H1 st sr1 _ _ (srv_tup X.K _ hK) rv'⟩
    | str x =>
      refine (pi_str (tg := tg) he).run pins s σ H R I ⟨W0, sl, sr, ?_⟩
      rw [q1] at q ⊢
      intro W1 H1 st sr1 v rv
      have rv : Rp c.K H1 (un W1 c.C0) v (.str x) := rv
      cases rv
      exact ⟨_, rfl, q W1 H1 st sr1 _ _ srv_str trivial⟩
    | dict kvs =>
      rw [q1] at q
      -- data that are dicts do not stand here yet
      refine (pi_list (tg := tg) he).run pins s σ H R I ⟨W0, sl, sr, ?_⟩
      rw [q1]
      intro W1 H1 st sr1 v rv
      have rv : Rp c.K H1 (un W1 c.C0) v (.dict kvs) := rv
      cases rv
    | none => rw [q1] at q; exact q.elim
    | bool b => rw [q1] at q; exact q.elim
    | int i => rw [q1] at q; exact q.elim
theorem smallI_of {i : Int} (h : smallI i = true) : -(2 ^ 62) ≤ i ∧ i < 2 ^ 62 := by
  obtain ⟨h1, h2⟩ := Bool.and_eq_true_iff.mp h
  exact ⟨of_decide_eq_true h1, of_decide_eq_true h2⟩
theorem snd_range1 (G : Good tb n c N sc X W) {e tg : Expr} {p pos : Pos} {a : L} {Γ} (hg : glB sc "range" = true) (hs : starB e = false) (he : PE X e (tM c W (evalE Γ a) (rP c.K))) : PI X tg (.Call (.Name "range" p) [e] [] pos) (tI c W (evalI Γ (.range1 a))) := by
  refine ⟨fun pins s σ H R I ⟨W0, sl, sr, q⟩ => ?_⟩
  simp only [evalI] at q
  refine (pi_range1 (tg := tg) (gl_of G hg) (G.blt _ (by decide +kernel)) (pa_cons he pa_nil (starEach_of hs)) (starEach_of hs)).run pins s σ H R I ⟨W0, sl, sr, q.bind.mono fun d W1 sl1 H1 st sr1 q v rv => ?_⟩
  split at q
  · split at q
    · rename_i k hk
      obtain rfl := (Rt.rp (show Rp c.K H1 (un W1 c.C0) v (.int _) from rv)).int
      obtain ⟨h1, h2⟩ := smallI_of hk
      exact ⟨_, rfl, h1, h2, q.now sr1 _ _ srv_range trivial⟩
    · exact q.elim
  · exact q.elim
theorem snd_range2 (G : Good tb n c N sc X W) {e e2 tg : Expr} {p pos : Pos} {a b : L} {Γ} (hg : glB sc "range" = true) (hs : starB e = false) (hs2 : starB e2 = false) (he : PE X e (tM c W (evalE Γ a) (rP c.K))) (he2 : PE X e2 (tM c W (evalE Γ b) (rP c.K))) :
    PI X tg (.Call (.Name "range" p) [e, e2] [] pos) (tI c W (evalI Γ (.range2 a b))) := by
  refine ⟨fun pins s σ H R I ⟨W0, sl, sr, q⟩ => ?_⟩
  simp only [evalI] at q
  refine (pi_range2 (tg := tg) (gl_of G hg) (G.blt _ (by decide +kernel)) (pa_cons he (pa_cons he2 pa_nil (starEach_of hs2)) (starEach_of hs)) (by rw [starEach_of hs, starEach_of hs2]; rfl) (starEach_of hs2)).run pins s σ H R I
    ⟨W0, sl, sr, q.bind.mono fun d W1 sl1 H1 st sr1 q v rv => ⟨W1, sl1, sr1, q.bind.mono fun d2 W2 sl2 H2 st2 sr2 q u ru => ?_⟩⟩
  split at q
  · split at q
    · rename_i i j hk
      obtain ⟨k1, k2⟩ := Bool.and_eq_true_iff.mp hk
      have rv2 := Rp.step st2 (show Rp c.K H1 (un W1 c.C0) v (.int _) from rv)
      obtain rfl := (Rt.rp rv2).int
      obtain rfl := (Rt.rp (show Rp c.K H2 (un W2 c.C0) u (.int _) from ru)).int
      obtain ⟨h1, h2⟩ := smallI_of k1
      obtain ⟨h3, h4⟩ := smallI_of k2
      exact ⟨_, _, rfl, ⟨h1, h2, h3, h4⟩, q.now sr2 _ _ srv_range trivial⟩
    · exact q.elim
  · exact q.elim
end
end Rf
end
section
set_option linter.all false
set_option maxRecDepth 100000
set_option maxHeartbeats 1000000
namespace Rf
open PySem PySem.Spec PyProof.Rows L2

theorem PG.imp {X : Cx} {e : Expr} {t t' : TG} (h : PG X e t) (f : ∀ v σ H Q, t' v σ H Q → t v σ H Q) : PG X e t' := ⟨fun pins s σ H v u Q I r q => h.run pins s σ H v u Q I r (f _ _ _ _ q)⟩
theorem PTs.imp {X : Cx} {e : List Expr} {t t' : TT} (h : PTs X e t) (f : ∀ σ H Q, t' σ H Q → t σ H Q) : PTs X e t' := ⟨fun pins s σ H Q I q => h.run pins s σ H Q I (f _ _ _ q)⟩
theorem PI.imp {X : Cx} {tg e : Expr} {t t' : TI} (h : PI X tg e t) (f : ∀ σ H Q, t' σ H Q → t σ H Q) : PI X tg e t' := ⟨fun pins s σ H Q I q => h.run pins s σ H Q I (f _ _ _ q)⟩

def locB (sc : Scope) (x : Str) : Bool := match sc.names.lookup x with
  | some .local => true
  | some .cell => true
  | _ => false
def okNm (N : List Str) (sc : Scope) (i : Nat) : Expr → Bool
  | .Name x _ => N[i]? == some x && locB sc x
  | _ => false
def okNms (N : List Str) (sc : Scope) : List Nat → List Expr → Bool
  | [], [] => true
  | i :: is, e :: es => okNm N sc i e && okNms N sc is es
  | _, _ => false
def okT2 (N : List Str) (sc : Scope) (i : Nat) (is : List Nat) : Expr → Bool
  | .Tuple [a, .Tuple es _ _] _ _ => okNm N sc i a && okNms N sc is es
  | _ => false
def okT (N : List Str) (sc : Scope) : T → Expr → Bool
  | .nm i, e => okNm N sc i e
  | .tp is, e => match e with
    | .Tuple es _ _ => okNms N sc is es
    | _ => false
  | .tp2 i is, e => okT2 N sc i is e

def gNames : List Nat → TGs
  | [] => gNil
  | i :: is => gCons (gName i) (gNames is)
def gT (K : PySem.W.Frag) : T → TG
  | .nm i => gName i
  | .tp is => gTup K is.length (gNames is)
  | .tp2 i is => gTup K 2 (gCons (gName i) (gCons (gTup K is.length (gNames is)) gNil))

/-- where names may be stored -/
structure Store (N : List Str) (sc : Scope) (X : Cx) : Prop where
  nd : X.N.Nodup
  hN : X.N = N
  calm : X.calm = true
  loc : ∀ x, locB sc x = true → Loc X.env.scope x ∧ (X.fn x = true ∨ X.env.scope.names.lookup x = some .local)
section
variable {N : List Str} {sc : Scope} {X : Cx}
theorem each_cons {e : Expr} {es : List Expr} {env : Env} (h : starB e = false) : assignEach (e :: es) env = (false, assign e env) :: assignEach es env := by
  cases e <;> first
    | rfl
    | exact absurd h (by decide)
    | (cases (show true = false from h))
theorem okNm_star {i : Nat} {e : Expr} (h : okNm N sc i e = true) : starB e = false := by
  cases e <;> first
    | rfl
    | (simp [okNm] at h)
theorem pg_nm (S : Store N sc X) {i : Nat} {e : Expr} (h : okNm N sc i e = true) : PG X e (gName i) := by
  cases e <;> first
    | (simp [okNm] at h; done)
    | skip
  rename_i x p
  obtain ⟨h1, h2⟩ := Bool.and_eq_true_iff.mp (show (N[i]? == some x && locB sc x) = true from h)
  obtain ⟨l1, l2⟩ := S.loc x h2
  exact pg_name S.nd (by rw [S.hN]; exact beq_iff_eq.mp h1) l1 l2
theorem pgs_nms (S : Store N sc X) : ∀ {is : List Nat} {es : List Expr}, okNms N sc is es = true → PGs X es (gNames is) ∧ (assignEach es X.env).length = is.length ∧ (assignEach es X.env).findIdx? (·.1) = none
  | [], [], _ => ⟨pgs_nil, rfl, rfl⟩
  | [], _ :: _, h => by simp [okNms] at h
  | _ :: _, [], h => by simp [okNms] at h
  | i :: is, e :: es, h => by
    obtain ⟨h1, h2⟩ := Bool.and_eq_true_iff.mp (show (okNm N sc i e && okNms N sc is es) = true from h)
    obtain ⟨q1, q2, q3⟩ := pgs_nms S h2
    have hs := each_cons (es := es) (env := X.env) (okNm_star h1)
    refine ⟨pgs_cons (pg_nm S h1) q1 (by rw [hs]; rfl), by rw [hs, List.length_cons, q2]; rfl, ?_⟩
    rw [hs, List.findIdx?_cons]
    simp [q3]
theorem snd_tgt (S : Store N sc X) {t : T} {e : Expr} (h : okT N sc t e = true) : PG X e (gT X.K t) := by
  cases t with
  | nm i => exact pg_nm S h
  | tp is =>
    cases e <;> first
      | (simp [okT] at h; done)
      | skip
    obtain ⟨q1, q2, q3⟩ := pgs_nms S (show okNms N sc is _ = true from h)
    exact pg_tup S.calm q1 q2 q3
  | tp2 i is =>
    have h : okT2 N sc i is e = true := h
    unfold okT2 at h
    split at h
    · rename_i a es _ _ _ _
      obtain ⟨h1, h2⟩ := Bool.and_eq_true_iff.mp h
      obtain ⟨q1, q2, q3⟩ := pgs_nms S h2
      have hs := fun (u : Expr) => each_cons (es := [u]) (env := X.env) (okNm_star h1)
      refine pg_tup S.calm (pgs_cons (pg_nm S h1) (pgs_cons (pg_tup S.calm q1 q2 q3) pgs_nil) (by rw [hs]; rfl)) (by rw [hs]; rfl) ?_
      rw [hs, List.findIdx?_cons]
      rfl
    · cases h

end

section
variable {c : Cfg} {W : Addr → Prop} {sl : Sl} {σ : L2.St} {H : Hp}
theorem SR.setD (sr : SR c W sl σ H) {v : V} {x : D} (r : Rp c.K H (un W c.C0) v x) (i : Nat) : SR c W (sl.set i (some (.d x))) (σ.set i (some v)) H := by
  have cl : ∀ {j : Nat} {b : Bool} {k : Cell}, (sl.set i (some (.d x)))[j]? = some (some (.cell b k)) → j ≠ i ∧ sl[j]? = some (some (.cell b k)) := fun {j b k} h => by
    by_cases hj : j = i
    · subst hj
      by_cases hl : j < sl.length
      · rw [List.getElem?_set_self hl] at h; cases h
      · rw [List.getElem?_eq_none (by rw [List.length_set]; omega)] at h; cases h
    · rw [List.getElem?_set_ne (Ne.symm hj)] at h
      exact ⟨hj, h⟩
  refine ⟨sr.trk, by rw [List.length_set, List.length_set]; exact sr.len, fun j y h => ?_, fun j j' b b' k k' u h1 h2 h3 h4 => ?_, fun j k u h1 h2 => ?_⟩
  · by_cases hj : j = i
    · subst hj
      by_cases hl : j < sl.length
      · rw [List.getElem?_set_self hl] at h
        obtain rfl := Option.some.inj (Option.some.inj h)
        exact ⟨v, List.getElem?_set_self (by rw [← sr.len]; exact hl), r⟩
      · rw [List.getElem?_eq_none (by rw [List.length_set]; omega)] at h; cases h
    · rw [List.getElem?_set_ne (Ne.symm hj)] at h
      obtain ⟨u, e, q⟩ := sr.slot j y h
      exact ⟨u, by rw [List.getElem?_set_ne (Ne.symm hj)]; exact e, q⟩
  · obtain ⟨n1, h1⟩ := cl h1
    obtain ⟨n2, h2⟩ := cl h2
    rw [List.getElem?_set_ne (Ne.symm n1)] at h3
    rw [List.getElem?_set_ne (Ne.symm n2)] at h4
    exact sr.inj j j' b b' k k' u h1 h2 h3 h4
  · obtain ⟨n1, h1⟩ := cl h1
    rw [List.getElem?_set_ne (Ne.symm n1)] at h2
    exact sr.org j k u h1 h2
/-- slots forgotten -/
theorem SR.drop1 (sr : SR c W sl σ H) (i : Nat) : SR c W (sl.set i none) (σ.set i none) H := by
  have cl : ∀ {j : Nat} {y : Rf.X}, (sl.set i none)[j]? = some (some y) → j ≠ i ∧ sl[j]? = some (some y) := fun {j y} h => by
    by_cases hj : j = i
    · subst hj
      by_cases hl : j < sl.length
      · rw [List.getElem?_set_self hl] at h; cases h
      · rw [List.getElem?_eq_none (by rw [List.length_set]; omega)] at h; cases h
    · rw [List.getElem?_set_ne (Ne.symm hj)] at h
      exact ⟨hj, h⟩
  refine ⟨sr.trk, by rw [List.length_set, List.length_set]; exact sr.len, fun j y h => ?_, fun j j' b b' k k' u h1 h2 h3 h4 => ?_, fun j k u h1 h2 => ?_⟩
  · obtain ⟨hj, h⟩ := cl h
    obtain ⟨u, e, q⟩ := sr.slot j y h
    exact ⟨u, by rw [List.getElem?_set_ne (Ne.symm hj)]; exact e, q⟩
  · obtain ⟨n1, h1⟩ := cl h1
    obtain ⟨n2, h2⟩ := cl h2
    rw [List.getElem?_set_ne (Ne.symm n1)] at h3
    rw [List.getElem?_set_ne (Ne.symm n2)] at h4
    exact sr.inj j j' b b' k k' u h1 h2 h3 h4
  · obtain ⟨n1, h1⟩ := cl h1
    rw [List.getElem?_set_ne (Ne.symm n1)] at h2
    exact sr.org j k u h1 h2
theorem SR.wipe (sr : SR c W sl σ H) : ∀ own : List Nat, SR c W (wipeSl sl own) (L2.wipe σ own) H
  | [] => sr
  | v :: vs => (SR.wipe sr vs).drop1 v
theorem wipe_set {σ : L2.St} {i : Nat} {v : Option V} : ∀ {own : List Nat}, i ∈ own → L2.wipe (σ.set i v) own = L2.wipe σ own
  | [], h => by cases h
  | j :: own, h => by
    unfold L2.wipe
    by_cases hj : i = j
    · subst hj
      have base : ∀ own : List Nat, (L2.wipe (σ.set i v) own).set i none = (L2.wipe σ own).set i none := by
        intro own
        induction own with
        | nil => show (σ.set i v).set i none = σ.set i none; rw [List.set_set]
        | cons k own ih =>
          unfold L2.wipe
          by_cases hk : k = i
          · subst hk; rw [List.set_set, List.set_set]; exact ih
          · rw [List.set_comm _ _ hk, List.set_comm _ _ hk, ih]
      exact base own
    · rw [wipe_set (own := own) (by
        rcases List.mem_cons.mp h with e | e
        · exact absurd e hj
        · exact e)]
theorem wipe_none {σ : L2.St} {i : Nat} : ∀ {own : List Nat}, i ∈ own → (L2.wipe σ own).set i none = L2.wipe σ own
  | [], h => by cases h
  | j :: own, h => by
    unfold L2.wipe
    by_cases hj : j = i
    · subst hj; rw [List.set_set]
    · rw [List.set_comm _ _ hj, wipe_none ((List.mem_cons.mp h).resolve_left fun e => hj e.symm)]
theorem wipe_sub {σ : L2.St} {own : List Nat} : ∀ {os : List Nat}, (∀ i ∈ os, i ∈ own) → L2.wipe (L2.wipe σ own) os = L2.wipe σ own
  | [], _ => rfl
  | j :: os, h => by
    show (L2.wipe (L2.wipe σ own) os).set j none = _
    rw [wipe_sub fun i hi => h i (List.mem_cons_of_mem _ hi), wipe_none (h j List.mem_cons_self)]
theorem wipe_idem (σ : L2.St) (own : List Nat) : L2.wipe (L2.wipe σ own) own = L2.wipe σ own := wipe_sub fun _ h => h
/-- an address that only the callers write -/
theorem SR.foreign (sr : SR c W sl σ H) {D : Addr} {o : HO} (hD : c.C0 D) (nD : ¬ W D) : SR c W sl σ (upd H D o) := by
  have hs : ∀ a u, Rd H a u → ¬ un W c.C0 a → Rd (upd H D o) a u ∧ ¬ un W c.C0 a := fun a u q n => by
    have nd : a ≠ D := fun e => n (.inr (by rw [e]; exact hD))
    refine ⟨?_, n⟩
    rcases q with q | ⟨ob, q⟩
    · exact .inl (by rw [upd_ne nd]; exact q)
    · exact .inr ⟨ob, by rw [upd_ne nd]; exact q⟩
  refine ⟨fun a ha e => ?_, sr.len, fun i x e => ?_, sr.inj, sr.org⟩
  · by_cases na : a = D
    · subst na; rw [upd_same] at e; cases e
    · rw [upd_ne na] at e; exact sr.trk a ha e
  · obtain ⟨v, e1, r⟩ := sr.slot i x e
    refine ⟨v, e1, ?_⟩
    cases x with
    | d x => exact Rp.mono hs (show Rp c.K H (un W c.C0) v x from r)
    | cell own k =>
      obtain ⟨a, ea, wa, ow, ca⟩ := r
      have nd : a ≠ D := fun e => nD (by rw [← e]; exact wa)
      exact ⟨a, ea, wa, ow, ca.grow hs fun _ z => by rw [upd_ne nd]; exact z⟩
    | pin => exact r
/-- the target's slots, for the state -/
def setV (σ : L2.St) : List Nat → List V → L2.St
  | i :: is, v :: vs => setV (σ.set i (some v)) is vs
  | _, _ => σ
theorem wipe_setV {own : List Nat} : ∀ {is : List Nat} {vs : List V} {σ : L2.St}, (∀ i ∈ is, i ∈ own) → L2.wipe (setV σ is vs) own = L2.wipe σ own
  | [], _, _, _ => by simp [setV]
  | _ :: _, [], _, _ => by simp [setV]
  | i :: is, v :: vs, σ, h => by
    show L2.wipe (setV (σ.set i (some v)) is vs) own = _
    rw [wipe_setV (fun j hj => h j (List.mem_cons_of_mem _ hj)), wipe_set (h i List.mem_cons_self)]
theorem gNames_of {Q : L2.St → Hp → Prop} : ∀ {is : List Nat} {vs : List V} {ds : List D} {sl sl' : Sl} {σ : L2.St}, SR c W sl σ H → RpAll c.K H (un W c.C0) vs ds → setAll sl is ds = some sl' → (SR c W sl' (setV σ is vs) H → Q (setV σ is vs) H) →
    gNames is vs σ H Q
  | [], _, [], _, _, _, sr, .nil, h, q => by
    obtain rfl := Option.some.inj (show some _ = some _ from h)
    exact ⟨rfl, q sr⟩
  | [], _, _ :: _, _, _, _, _, _, h, _ => by simp [setAll] at h
  | _ :: _, _, [], _, _, _, _, _, h, _ => by simp [setAll] at h
  | i :: is, _, d :: ds, sl, sl', σ, sr, .cons (v := v) (vs := vs) r t, h, q =>
    ⟨v, vs, rfl, gNames_of (sr.setD r i) t (show setAll (sl.set i (some (.d d))) is ds = some sl' from h) q⟩
def tIds : T → List Nat
  | .nm i => [i]
  | .tp is => is
  | .tp2 i is => i :: is
theorem setAll_len : ∀ {is : List Nat} {ds : List D} {sl sl' : Sl}, setAll sl is ds = some sl' → is.length = ds.length
  | [], [], _, _, _ => rfl
  | [], _ :: _, _, _, h => by simp [setAll] at h
  | _ :: _, [], _, _, h => by simp [setAll] at h
  | i :: is, d :: ds, sl, sl', h => by rw [List.length_cons, List.length_cons, setAll_len (show setAll (sl.set i (some (.d d))) is ds = some sl' from h)]
/-- a target takes its value -/
theorem gT_of {t : T} {x : D} {sl' : Sl} {v : V} {Q : L2.St → Hp → Prop} (sr : SR c W sl σ H) (r : Rp c.K H (un W c.C0) v x) (h : assignT t x sl = some sl')
    (q : ∀ vs, SR c W sl' (setV σ (tIds t) vs) H → Q (setV σ (tIds t) vs) H) : gT c.K t v σ H Q := by
  unfold assignT at h
  split at h
  · obtain rfl := Option.some.inj h
    exact q [v] (sr.setD r _)
  · cases r with | tup s t' =>
    rename_i is xs a ys
    refine ⟨_, ys, rfl, s.sq, by rw [t'.length]; exact (setAll_len h).symm, gNames_of sr t' h (q ys)⟩
  · cases r with | tup s t' =>
    cases t' with | cons r1 t' =>
    cases t' with | cons r2 t' =>
    cases t'
    cases r2 with | tup s2 t2 =>
    rename_i i is x xs a u a2 ys
    refine ⟨_, _, rfl, s.sq, rfl, _, _, rfl, ?_⟩
    refine ⟨_, _, rfl, _, ys, rfl, s2.sq, by rw [t2.length]; exact (setAll_len h).symm, ?_⟩
    exact gNames_of (sr.setD r1 i) t2 h fun sr' => ⟨rfl, q (u :: ys) sr'⟩
  · cases h
end

section
variable {tb : Tab} {n : Nat} {c : Cfg} {N : List Str} {sc : Scope} {X : Cx} {W : WX}
/-- within a block: the list D is being made -/
def Cfg.blk (c : Cfg) (D : Addr) : Cfg := { c with C0 := fun a => c.C0 a ∨ a = D, org := fun i v => c.org i v ∧ v ≠ .ref D }
def Wn : WX := fun _ _ _ _ => False
def ownP (N : List Str) (own : List Nat) : List (Str × Nat) := own.map fun i => ((N[i]?).getD "", i)
theorem ownP_snd (N : List Str) : ∀ own : List Nat, (ownP N own).map (·.2) = own
  | [] => rfl
  | _ :: own => by show _ :: _ = _; rw [show List.map _ (List.map _ own) = own from ownP_snd N own]
/-- a block's context -/
theorem Good.blk (G : Good tb n c N sc X W) (D : Addr) {s : Shared} {H : Hp} {scope : Scope} {C : Addr} {cl : List (Str × Addr)} {fp : List Addr} :
    Good tb n (c.blk D) N (relS scope sc) (X.blk s H scope (compEnvC scope cl C X.env) fp) Wn := by
  refine ⟨G.hK, G.hN, G.nd, ?_, G.calm, G.room, takes_none5, fun f x h => ?_, G.blt, fun g x h => ⟨(G.glb g x h).ex⟩, fun x h => ⟨(G.sgn x h).ex⟩⟩
  · rw [← G.hsc]; rfl
  · obtain ⟨e⟩ := G.fn f x h
    exact ⟨e⟩
theorem locB_of {sc : Scope} {x : Str} (h : locB sc x = true) : sc.names.lookup x = some .local ∨ sc.names.lookup x = some .cell := by
  unfold locB at h
  split at h
  · exact .inl (by assumption)
  · exact .inr (by assumption)
  · cases h
theorem Good.store (G : Good tb n c N sc X W) {s : Shared} {H : Hp} {scope : Scope} {C : Addr} {cl : List (Str × Addr)} {fp : List Addr} :
    Store N scope (X.blk s H scope (compEnvC scope cl C X.env) fp) := by
  refine ⟨by show X.N.Nodup; rw [G.hN]; exact G.nd, G.hN, G.calm, fun x h => ?_⟩
  rcases locB_of h with k | k
  · have := lookup_relS_keep (sc := X.env.scope) (by decide) k
    exact ⟨.inl this, .inr this⟩
  · have := lookup_relS_keep (sc := X.env.scope) (by decide) k
    exact ⟨.inr this, .inl (by show (scope.names.lookup x == some .cell) = true; rw [k]; rfl)⟩

theorem compLoop_cons {turn : D → Sl → R (Option D)} {x : D} {xs acc ys : List D} {sl slF : Sl} (h : compLoop turn (x :: xs) acc sl = .ok ys slF) :
    (∃ y sl', turn x sl = .ok (some y) sl' ∧ acc.length < sizeLine ∧ compLoop turn xs (acc ++ [y]) sl' = .ok ys slF) ∨ ∃ sl', turn x sl = .ok none sl' ∧ compLoop turn xs acc sl' = .ok ys slF := by
  unfold compLoop at h
  split at h
  · rename_i y sl' e
    split at h
    · exact .inl ⟨y, sl', e, by assumption, h⟩
    · cases h
  · rename_i sl' e
    exact .inr ⟨sl', e, h⟩
  · cases h
theorem compLoop_exc {turn : D → Sl → R (Option D)} : ∀ {xs acc : List D} {sl sl' : Sl} {e : Nat}, compLoop turn xs acc sl ≠ .exc e sl'
  | [], acc, sl, sl', e => by unfold compLoop; simp
  | x :: xs, acc, sl, sl', e => by
    unfold compLoop
    split
    · split
      · exact compLoop_exc
      · simp
    · exact compLoop_exc
    · simp
/-- the slots behind a block -/
theorem restore_in {sl0 sl : Sl} {v : Nat} : ∀ {own : List Nat}, v ∈ own → v < sl.length → (restoreSl sl0 sl own)[v]? = some (sl0[v]?.getD none)
  | [], h, _ => by cases h
  | w :: own, h, hl => by
    have len : ∀ own : List Nat, (restoreSl sl0 sl own).length = sl.length := by
      intro own
      induction own with
      | nil => rfl
      | cons k own ih => show ((restoreSl sl0 sl own).set _ _).length = _; rw [List.length_set]; exact ih
    show ((restoreSl sl0 sl own).set w _)[v]? = _
    by_cases hw : v = w
    · subst hw
      rw [List.getElem?_set_self (by rw [len]; exact hl)]
    · rw [List.getElem?_set_ne (Ne.symm hw)]
      exact restore_in ((List.mem_cons.mp h).resolve_left hw) hl
theorem restore_out {sl0 sl : Sl} {v : Nat} : ∀ {own : List Nat}, v ∉ own → (restoreSl sl0 sl own)[v]? = sl[v]?
  | [], _ => rfl
  | w :: own, h => by
    show ((restoreSl sl0 sl own).set w _)[v]? = _
    rw [List.getElem?_set_ne (fun e => h (by rw [e]; exact List.mem_cons_self))]
    exact restore_out fun z => h (List.mem_cons_of_mem _ z)
theorem restore_len {sl0 sl : Sl} : ∀ own : List Nat, (restoreSl sl0 sl own).length = sl.length
  | [] => rfl
  | w :: own => by show ((restoreSl sl0 sl own).set w _).length = _; rw [List.length_set]; exact restore_len own
theorem wipeSl_out {sl : Sl} {v : Nat} : ∀ {own : List Nat}, v ∉ own → (wipeSl sl own)[v]? = sl[v]?
  | [], _ => rfl
  | w :: own, h => by
    show ((wipeSl sl own).set w _)[v]? = _
    rw [List.getElem?_set_ne (fun e => h (by rw [e]; exact List.mem_cons_self))]
    exact wipeSl_out fun z => h (List.mem_cons_of_mem _ z)
theorem wipeSl_len {sl : Sl} : ∀ own : List Nat, (wipeSl sl own).length = sl.length
  | [] => rfl
  | w :: own => by show ((wipeSl sl own).set w _).length = _; rw [List.length_set]; exact wipeSl_len own

/-- the cells' configuration within a block -/
theorem SR.toBlk {W1 : Addr → Prop} {sl : Sl} {σ : L2.St} {H : Hp} (sr : SR c W1 sl σ H) {D : Addr} {o : HO} (hD : H D = none) : SR (c.blk D) W1 sl σ (upd H D o) := by
  have g := upd_grow (o := o) hD
  have hs : ∀ a u, Rd H a u → ¬ un W1 c.C0 a → Rd (upd H D o) a u ∧ ¬ un W1 (c.blk D).C0 a := fun a u r n => by
    have na : a ≠ D := fun e => by
      subst e
      rcases r with r | ⟨ob, r⟩ <;> (rw [r] at hD; cases hD)
    refine ⟨?_, fun z => ?_⟩
    · rcases r with r | ⟨ob, r⟩
      · exact .inl (g _ _ r)
      · exact .inr ⟨ob, g _ _ r⟩
    · rcases z with z | z | z
      · exact n (.inl z)
      · exact n (.inr z)
      · exact na z
  refine ⟨fun a ha e => ?_, sr.len, fun i x e => ?_, sr.inj, fun i k v e1 e2 => ⟨sr.org i k v e1 e2, fun ev => ?_⟩⟩
  · by_cases na : a = D
    · subst na; rw [upd_same] at e; cases e
    · rw [upd_ne na] at e
      rcases ha with z | z | z
      · exact sr.trk a (.inl z) e
      · exact sr.trk a (.inr z) e
      · exact na z
  · obtain ⟨v, e1, r⟩ := sr.slot i x e
    refine ⟨v, e1, ?_⟩
    cases x with
    | d x => exact Rp.mono hs (show Rp c.K H (un W1 c.C0) v x from r)
    | cell own k =>
      obtain ⟨a, ea, wa, ow, ca⟩ := r
      have na : a ≠ D := fun e => by
        subst e
        exact sr.trk a (.inl wa) hD
      exact ⟨a, ea, wa, ⟨fun z w => w.elim (ow.mp z) na, fun z => ow.mpr fun w => z (.inl w)⟩, ca.grow hs (g a)⟩
    | pin => exact r
  · subst ev
    obtain ⟨v, e1, a, ea, wa, _⟩ := sr.slot i _ e1
    rw [e2] at e1
    obtain rfl := Option.some.inj (Option.some.inj e1)
    cases ea
    exact sr.trk _ (.inl wa) hD
theorem un_blk {W1 : Addr → Prop} {D : Addr} {a : Addr} (h : un W1 c.C0 a) : un W1 (c.blk D).C0 a := h.imp id .inl
theorem Rp.unblk {W1 : Addr → Prop} {D : Addr} {H : Hp} {v : V} {d : Rf.D} (r : Rp c.K H (un W1 (c.blk D).C0) v d) : Rp c.K H (un W1 c.C0) v d := r.mono fun _ _ q n => ⟨q, fun z => n (un_blk z)⟩
theorem RpAll.unblk {W1 : Addr → Prop} {D : Addr} {H : Hp} {v : List V} {d : List Rf.D} (r : RpAll c.K H (un W1 (c.blk D).C0) v d) : RpAll c.K H (un W1 c.C0) v d := r.mono fun _ _ q n => ⟨q, fun z => n (un_blk z)⟩
/-- .. and behind it -/
theorem SR.ofBlk {W1 W2 W3 : Addr → Prop} {sl1 slF : Sl} {σ : L2.St} {H1 H2 : Hp} {own : List Nat} {D : Addr} (sr1 : SR c W1 sl1 σ H1) (st : Stp W1 H1 W3 H2) (sr : SR (c.blk D) W2 (wipeSl slF own) (L2.wipe σ own) H2)
    (hown : own.all (isData sl1) = true) (hw : ∀ a, W2 a → W3 a) (hu : ∀ a, un W3 c.C0 a → un W2 (c.blk D).C0 a) : SR c W3 (restoreSl sl1 slF own) σ H2 := by
  have lenF : slF.length = sl1.length := by
    have := sr.len
    rw [wipeSl_len, L2.wipe_length] at this
    rw [this, sr1.len]
  have inn : ∀ {i : Nat} {x : Rf.X}, i ∈ own → (restoreSl sl1 slF own)[i]? = some (some x) → sl1[i]? = some (some x) ∧ ∃ d, x = .d d := fun {i x} hi e => by
    have hl : i < slF.length := by
      have := (List.getElem?_eq_some_iff.mp e).1
      rwa [restore_len] at this
    rw [restore_in hi hl] at e
    have e := Option.some.inj e
    have hd := List.all_eq_true.mp hown i hi
    cases q : sl1[i]? with
    | none => rw [q] at e; cases e
    | some z =>
      rw [q] at e
      obtain rfl : z = some x := e
      refine ⟨rfl, ?_⟩
      cases x with
      | d d => exact ⟨d, rfl⟩
      | cell b k => unfold isData at hd; rw [q] at hd; cases hd
      | pin => unfold isData at hd; rw [q] at hd; cases hd
  have out : ∀ {i : Nat} {x : Rf.X}, i ∉ own → (restoreSl sl1 slF own)[i]? = some (some x) → (wipeSl slF own)[i]? = some (some x) := fun {i x} hi e => by
    rw [restore_out hi] at e
    rw [wipeSl_out hi]
    exact e
  have cellsOut : ∀ {i : Nat} {b : Bool} {k : Cell}, (restoreSl sl1 slF own)[i]? = some (some (.cell b k)) → i ∉ own := fun {i b k} e hi => by
    obtain ⟨_, d, q⟩ := inn hi e
    cases q
  refine ⟨fun a ha => sr.trk a (hu a ha), by rw [restore_len, lenF]; exact sr1.len, fun i x e => ?_, fun i j b b' k k' v e1 e2 e3 e4 => ?_, fun i k v e1 e2 => ?_⟩
  · by_cases hi : i ∈ own
    · obtain ⟨e', d, rfl⟩ := inn hi e
      obtain ⟨v, e1, r⟩ := sr1.slot i _ e'
      exact ⟨v, e1, Rp.step st (show Rp c.K H1 (un W1 c.C0) v d from r)⟩
    · obtain ⟨v, e1, r⟩ := sr.slot i x (out hi e)
      rw [L2.wipe_out hi] at e1
      refine ⟨v, e1, ?_⟩
      cases x with
      | d x => exact Rp.mono (fun _ _ q n => ⟨q, fun z => n (hu _ z)⟩) (show Rp c.K H2 (un W2 (c.blk D).C0) v x from r)
      | cell own' k =>
        obtain ⟨a, ea, wa, ow, ca⟩ := r
        refine ⟨a, ea, hw a wa, ?_, ca.grow (fun _ _ q n => ⟨q, fun z => n (hu _ z)⟩) fun _ z => z⟩
        cases own' with
        | true => exact ⟨fun _ z => ow.mp rfl (.inl z), fun _ => rfl⟩
        | false =>
          refine ⟨fun z => absurd z (by decide), fun z => ?_⟩
          have og := sr.org i k v (out hi e) (by rw [L2.wipe_out hi]; exact e1)
          refine absurd (ow.mpr fun w => ?_) (by decide)
          rcases w with w | w
          · exact z w
          · exact og.2 (by rw [ea, w])
      | pin => exact r
  · have n1 := cellsOut e1
    have n2 := cellsOut e2
    exact sr.inj i j b b' k k' v (out n1 e1) (out n2 e2) (by rw [L2.wipe_out n1]; exact e3) (by rw [L2.wipe_out n2]; exact e4)
  · have n1 := cellsOut e1
    exact (sr.org i k v (out n1 e1) (by rw [L2.wipe_out n1]; exact e2)).1

def compTurn (Γ : Nat → List Rf.X → CR) (elt : L) (t : T) (cond : Ol) (own : List Nat) : D → Sl → R (Option D) := fun x sl => match assignT t x (wipeSl sl own) with
  | none => .stuck
  | some sl => (evalC Γ cond sl).bind fun b sl => if b then (evalE Γ elt sl).bind fun y sl => .ok (some y) sl else .ok none sl
theorem evalE_comp {Γ : Nat → List Rf.X → CR} {elt : L} {t : T} {it : I} {cond : Ol} {own : List Nat} {sl : Sl} :
    evalE Γ (.comp elt t it cond own) sl = (evalI Γ it sl).bind fun xs sl0 => if own.all (isData sl0) then (compLoop (compTurn Γ elt t cond own) xs [] sl0).bind fun ys sl => .ok (.list ys) (restoreSl sl0 sl own) else .stuck := by
  simp only [evalE]
  rfl
end
end Rf
end
section
set_option linter.all false
set_option maxRecDepth 100000
set_option maxHeartbeats 1000000
namespace Rf
open PySem PySem.Spec PyProof.Rows L2
section
variable {tb : Tab} {n : Nat} {c : Cfg} {N : List Str} {sc : Scope} {X : Cx} {W : WX}
/-- a new mutable object, or data -/
def kN (c : Cfg) (σ : L2.St) (Q : VK) : Cell → (Addr → Prop) → Sl → Hp → Prop := fun k W' sl' H' =>
  ∀ (a : Addr), W' a → ¬ c.C0 a → CellAt c.K H' (un W' c.C0) a k → (∀ (i : Nat) (b : Bool) (k' : Cell), sl'[i]? = some (some (.cell b k')) → σ[i]? ≠ some (some (.ref a))) → Q (.ref a) H'
/-- the reading of an expression that makes a mutable object -/
def tN (c : Cfg) (Wx : WX) (m : Sl → R Cell) : TE := fun σ H Q => ∃ W sl, SR c W sl σ H ∧ WP c Wx σ W H (m sl) (kN c σ Q)
/-- an address given up -/
theorem SR.less {W1 W2 : Addr → Prop} {sl : Sl} {σ : L2.St} {H : Hp} (sr : SR c W1 sl σ H) (hw : ∀ a, W2 a → W1 a) (hc : ∀ (i : Nat) (b : Bool) (k : Cell) (a : Addr), sl[i]? = some (some (.cell b k)) → σ[i]? = some (some (.ref a)) → W2 a) : SR c W2 sl σ H := by
  have hu : ∀ a, un W2 c.C0 a → un W1 c.C0 a := fun a z => z.imp (hw a) id
  refine ⟨fun a ha => sr.trk a (hu a ha), sr.len, fun i x e => ?_, sr.inj, sr.org⟩
  obtain ⟨v, e1, r⟩ := sr.slot i x e
  refine ⟨v, e1, ?_⟩
  cases x with
  | d x => exact Rp.mono (fun _ _ q n => ⟨q, fun z => n (hu _ z)⟩) (show Rp c.K H (un W1 c.C0) v x from r)
  | cell own k =>
    obtain ⟨a, ea, wa, ow, ca⟩ := r
    subst ea
    exact ⟨a, rfl, hc i own k a e e1, ow, ca.grow (fun _ _ q n => ⟨q, fun z => n (hu _ z)⟩) fun _ z => z⟩
  | pin => exact r
/-- made anew, it is data if one wishes -/
theorem pe_data {e : Expr} {m : Sl → R D} (hth : ∀ sl d sl', m sl = .ok d sl' → ∃ ds, d = .list ds) (h : PE X e (tN c W fun sl => (m sl).bind fun d sl => R.of (thaw d) sl)) : PE X e (tM c W m (rP c.K)) := by
  refine PE.imp h fun σ H Q ⟨W0, sl, sr, q⟩ => ⟨W0, sl, sr, ?_⟩
  show WP c W σ W0 H ((m sl).bind fun d sl => R.of (thaw d) sl) _
  cases hm : m sl with
  | stuck => rw [hm] at q; exact q
  | exc e sl' => rw [hm] at q; exact q
  | ok d sl' =>
    rw [hm] at q
    obtain ⟨ds, rfl⟩ := hth sl d sl' hm
    intro W' H' st sr' a wa nc ca ns
    obtain ⟨xs, ea, ra⟩ := ca
    refine q (fun b => W' b ∧ b ≠ a) H' ⟨fun b o e nb => st.keep b o e nb, fun b hb => st.free b hb.1⟩ (sr'.less (fun b hb => hb.1) fun i b k' a' e1 e2 => ⟨?_, fun z => ?_⟩) (.ref a) ?_
    · obtain ⟨v, e3, a2, ea2, wa2, _⟩ := sr'.slot i _ e1
      rw [e2] at e3
      obtain rfl := Option.some.inj (Option.some.inj e3)
      cases ea2
      exact wa2
    · subst z
      exact ns i b k' e1 e2
    · exact .lst (.inl ⟨.of ea, fun z => z.elim (fun z => z.2 rfl) nc⟩) (ra.mono fun _ _ q n => ⟨q, fun z => n (z.imp (·.1) id)⟩)
/-- a new list laid -/
theorem new_lst {W1 : Addr → Prop} {sl1 : Sl} {σ : L2.St} {H1 : Hp} {ds : List D} {xs : List V} {Q : VK} (sr1 : SR c W1 sl1 σ H1) (q : WP c W σ W1 H1 (.ok (.lst ds) sl1) (kN c σ Q)) (r : RpAll c.K H1 (un W1 c.C0) xs ds) (p : Addr) (hp : H1 p = none) :
    Q (.ref p) (upd H1 p (.lst xs)) := by
  have g := upd_grow (o := HO.lst xs) hp
  have np : ∀ a, un W1 c.C0 a → a ≠ p := fun a ha e => by subst e; exact sr1.trk a ha hp
  have hs : ∀ a u, Rd H1 a u → ¬ un W1 c.C0 a → Rd (upd H1 p (.lst xs)) a u ∧ ¬ un (fun b => W1 b ∨ b = p) c.C0 a := fun a u r n => by
    have na : a ≠ p := fun e => by
      subst e
      rcases r with r | ⟨ob, r⟩ <;> (rw [r] at hp; cases hp)
    refine ⟨?_, fun z => ?_⟩
    · rcases r with r | ⟨ob, r⟩
      · exact .inl (g _ _ r)
      · exact .inr ⟨ob, g _ _ r⟩
    · rcases z with (z | z) | z
      · exact n (.inl z)
      · exact na z
      · exact n (.inr z)
  refine q (fun b => W1 b ∨ b = p) (upd H1 p (.lst xs)) ⟨fun a o e _ => g a o e, fun a ha => ha.imp id fun e => by rw [e]; exact hp⟩ ⟨fun a ha e => ?_, sr1.len, fun i x e => ?_, sr1.inj, sr1.org⟩ p (.inr rfl) (fun z => np p (.inr z) rfl) ⟨xs, upd_same, r.mono hs⟩ fun i b k e1 e2 => ?_
  · by_cases na : a = p
    · subst na; rw [upd_same] at e; cases e
    · rw [upd_ne na] at e
      rcases ha with (z | z) | z
      · exact sr1.trk a (.inl z) e
      · exact na z
      · exact sr1.trk a (.inr z) e
  · obtain ⟨v, e1, r⟩ := sr1.slot i x e
    refine ⟨v, e1, ?_⟩
    cases x with
    | d x => exact Rp.mono hs (show Rp c.K H1 (un W1 c.C0) v x from r)
    | cell own k =>
      obtain ⟨a, ea, wa, ow, ca⟩ := r
      exact ⟨a, ea, .inl wa, ow, ca.grow hs (g a)⟩
    | pin => exact r
  · obtain ⟨v, e3, a, ea, wa, _⟩ := sr1.slot i _ e1
    rw [e2] at e3
    obtain rfl := Option.some.inj (Option.some.inj e3)
    cases ea
    exact np p (.inl wa) rfl
theorem new_list {es : Ls} {xs : List Expr} {p : Pos} {Γ} (h : PA X xs (tMs c W (evalLs Γ es) (rPs c.K))) : PE X (.List xs p) (tN c W (evalN Γ (.lst es))) := by
  refine PE.imp (pe_lst h) fun σ H Q ⟨W0, sl, sr, q⟩ => ?_
  simp only [evalN, evalE] at q
  refine ⟨W0, sl, sr, q.bind.bind.mono fun ds W1 sl1 H1 st sr1 q vs rv => ?_⟩
  split at q
  · rename_i hl
    have rv : RpAll c.K H1 (un W1 c.C0) vs ds := rv
    exact ⟨by rw [rv.length]; exact hl, new_lst sr1 (q.now sr1) rv⟩
  · exact q.elim

/-- the evaluator's reading is the rule's -/
theorem comp_imp {Γ : Nat → List Rf.X → CR} {l : L} {t : T} {it : I} {cond : Ol} {own : List Nat} (hown : (tIds t).all (fun i => decide (i ∈ own)) = true) {σ : L2.St} {H : Hp} {Q : VK} (h : tN c W (evalN Γ (.comp l t it cond own)) σ H Q) :
    tLc (tI c W (evalI Γ it)) (gT c.K t) (fun σ H Q => ∃ D, tMb (c.blk D) Wn (evalC Γ cond) σ H Q) (fun σ H Q => ∃ D, tM (c.blk D) Wn (evalE Γ l) (rP c.K) σ H Q) own σ H Q := by
  obtain ⟨W0, sl, sr, q⟩ := h
  simp only [evalN] at q
  rw [evalE_comp] at q
  refine ⟨W0, sl, sr, q.bind.bind.mono fun ds W1 sl1 H1 st1 sr1 q J src S hsrc D hD => ?_⟩
  split at q
  · rename_i hdat
    cases hq : compLoop (compTurn Γ l t cond own) ds [] sl1 with
    | stuck => rw [hq] at q; exact q.elim
    | exc e sl' => exact absurd hq compLoop_exc
    | ok ys slF =>
    rw [hq] at q
    have q : WP c W σ W1 H1 (.ok (.lst ys) (restoreSl sl1 slF own)) (kN c σ Q) := fun W' H' st sr => (q W' H' st sr).now sr
    have tids : ∀ i ∈ tIds t, i ∈ own := fun i hi => of_decide_eq_true (List.all_eq_true.mp hown i hi)
    have nC0 : ¬ c.C0 D := fun z => sr1.trk D (.inr z) hD
    have nW1 : ¬ W1 D := fun z => sr1.trk D (.inl z) hD
    have hlift : ∀ a u, Rd H1 a u → ¬ un W1 c.C0 a → Rd (upd H1 D (.lst [])) a u ∧ ¬ un W1 (c.blk D).C0 a := fun a u r n => by
      have na : a ≠ D := fun e => by
        subst e
        rcases r with r | ⟨ob, r⟩ <;> (rw [r] at hD; cases hD)
      have g := upd_grow (o := HO.lst []) hD
      refine ⟨?_, fun z => ?_⟩
      · rcases r with r | ⟨ob, r⟩
        · exact .inl (g _ _ r)
        · exact .inr ⟨ob, g _ _ r⟩
      · rcases z with z | z | z
        · exact n (.inl z)
        · exact n (.inr z)
        · exact na z
    refine ⟨fun i m H => ∃ W2 sl2 accD acc, m = ds.length - i ∧ i ≤ ds.length ∧ Stp W1 H1 W2 H ∧ ¬ W2 D ∧ H D = some (.lst acc) ∧ RpAll c.K H (un W2 (c.blk D).C0) acc accD ∧ SR (c.blk D) W2 (wipeSl sl2 own) (L2.wipe σ own) H ∧ src (un W2 (c.blk D).C0) H ∧
      compLoop (compTurn Γ l t cond own) (ds.drop i) accD sl2 = .ok ys slF, ⟨ds.length, W1, sl1, [], [], by simp, Nat.zero_le _, .grow (upd_grow hD), nW1, upd_same, .nil, (sr1.toBlk hD).wipe own, S.step hlift hsrc, hq⟩, ?_⟩
    rintro i m H2 ⟨W2, sl2, accD, acc, rfl, hi, st, nD, hDs, ra, sr2, hsr, hloop⟩
    by_cases hlt : i < ds.length
    · obtain ⟨d, hd⟩ : ∃ d, ds[i]? = some d := ⟨ds[i], List.getElem?_eq_getElem hlt⟩
      have hdrop : ds.drop i = d :: ds.drop (i + 1) := by
        obtain ⟨h1, h2⟩ := List.getElem?_eq_some_iff.mp hd
        rw [← h2]; exact List.drop_eq_getElem_cons h1
      rw [hdrop] at hloop
      -- what the next turn is to reach
      refine .inr ⟨S.go hsr hlt, fun H' => ∃ W2' sl2' accD' acc', Stp W1 H1 W2' H' ∧ ¬ W2' D ∧ H' D = some (.lst acc') ∧ RpAll c.K H' (un W2' (c.blk D).C0) acc' accD' ∧ SR (c.blk D) W2' (wipeSl sl2' own) (L2.wipe σ own) H' ∧ src (un W2' (c.blk D).C0) H' ∧
        compLoop (compTurn Γ l t cond own) (ds.drop (i + 1)) accD' sl2' = .ok ys slF, fun H' ⟨W2', sl2', accD', acc', h1, h2, h3, h4, h5, h6, h7⟩ => ⟨ds.length - (i + 1), by omega, W2', sl2', accD', acc', rfl, hlt, h1, h2, h3, h4, h5, h6, h7⟩, fun x H3 hy => ?_⟩
      obtain ⟨g, rx⟩ := S.yld hsr sr2.trk hd hy
      have st3 : Stp W2 H2 W2 H3 := .grow g
      have sr3 := sr2.grow g
      -- the turn's value
      have hturn : ∃ r sl', compTurn Γ l t cond own d sl2 = .ok r sl' ∧ (match r with | some y => accD.length < sizeLine ∧ compLoop (compTurn Γ l t cond own) (ds.drop (i + 1)) (accD ++ [y]) sl' = .ok ys slF | none => compLoop (compTurn Γ l t cond own) (ds.drop (i + 1)) accD sl' = .ok ys slF) := by
        rcases compLoop_cons hloop with ⟨y, sl', h1, h2, h3⟩ | ⟨sl', h1, h3⟩
        · exact ⟨some y, sl', h1, h2, h3⟩
        · exact ⟨none, sl', h1, h3⟩
      obtain ⟨r, sl', hturn, hnext⟩ := hturn
      unfold compTurn at hturn
      split at hturn
      · cases hturn
      · rename_i slA hA
        cases hc : evalC Γ cond slA with
        | stuck => rw [hc] at hturn; cases hturn
        | exc e s' => rw [hc] at hturn; cases hturn
        | ok b slB =>
        rw [hc] at hturn
        refine gT_of (c := c.blk D) (W := W2) (sl := wipeSl sl2 own) sr3 rx hA fun vs sr4 => ?_
        refine ⟨?_, D, W2, slA, sr4, ?_⟩
        · rw [wipe_setV tids, wipe_idem]
        · rw [hc]
          intro W3 H4 st4 sr5
          have kD : H4 D = some (.lst acc) := st4.keep D _ (st3.keep D _ hDs nD) nD
          have n3 : ¬ W3 D := fun z => by
            rcases st4.free D z with z | z
            · exact nD z
            · rw [st3.keep D _ hDs nD] at z; cases z
          have st23 : Stp W2 H2 W3 H4 := st3.trans st4
          have fin : ∀ {W5 : Addr → Prop} {H5 : Hp} {sl5 : Sl}, Stp W3 H4 W5 H5 → SR (c.blk D) W5 sl5 (setV (L2.wipe σ own) (tIds t) vs) H5 → ¬ W5 D ∧ H5 D = some (.lst acc) ∧ Stp W1 H1 W5 H5 ∧ RpAll c.K H5 (un W5 (c.blk D).C0) acc accD ∧ SR (c.blk D) W5 (wipeSl sl5 own) (L2.wipe σ own) H5 ∧ src (un W5 (c.blk D).C0) H5 := fun {W5 H5 sl5} st5 sr6 => by
            have st25 := st23.trans st5
            refine ⟨fun z => ?_, st5.keep D _ kD n3, st.trans st25, RpAll.step (C0 := (c.blk D).C0) st25 ra, ?_, S.step (fun a u q n => Rd.keep (C0 := (c.blk D).C0) st25 q n) hsr⟩
            · rcases st5.free D z with z | z
              · exact n3 z
              · rw [kD] at z; cases z
            · have := sr6.wipe own
              rw [wipe_setV tids, wipe_idem] at this
              exact this
          cases b with
          | false =>
            cases hturn
            refine (if_neg Bool.false_ne_true).mpr ?_
            obtain ⟨f1, f2, f3, f4, f5, f6⟩ := fin .refl sr5
            exact ⟨W3, _, accD, acc, f3, f1, f2, f4, f5, f6, hnext⟩
          | true =>
            refine (if_pos rfl).mpr ?_
            refine ⟨D, W3, slB, sr5, ?_⟩
            cases hel : evalE Γ l slB with
            | stuck => rw [R.bind_ok, if_pos rfl, hel] at hturn; cases hturn
            | exc e s' => rw [R.bind_ok, if_pos rfl, hel] at hturn; cases hturn
            | ok y slC =>
              rw [R.bind_ok, if_pos rfl, hel] at hturn
              cases hturn
              intro W5 H5 st5 sr6 v rv
              have rv : Rp c.K H5 (un W5 (c.blk D).C0) v y := rv
              obtain ⟨f1, f2, f3, f4, f5, f6⟩ := fin st5 sr6
              obtain ⟨hsz, hnext⟩ := hnext
              refine ⟨acc, f2, by rw [f4.length]; exact hsz, W5, _, accD ++ [y], acc ++ [v], ?_, f1, upd_same, ?_, ?_, ?_, hnext⟩
              · refine ⟨fun a o e na => ?_, f3.free⟩
                have nd : a ≠ D := fun z => by subst z; rw [hD] at e; cases e
                rw [upd_ne nd]
                exact f3.keep a o e na
              · refine (f4.append (.cons rv .nil)).mono fun a u q na => ⟨?_, na⟩
                have nd : a ≠ D := fun z => na (.inr (.inr z))
                rcases q with q | ⟨o, q⟩
                · exact .inl (by rw [upd_ne nd]; exact q)
                · exact .inr ⟨o, by rw [upd_ne nd]; exact q⟩
              · exact f5.foreign (.inr rfl) f1
              · refine S.step (fun a u q na => ⟨?_, na⟩) f6
                have nd : a ≠ D := fun z => na (.inr (.inr z))
                rcases q with q | ⟨o, q⟩
                · exact .inl (by rw [upd_ne nd]; exact q)
                · exact .inr ⟨o, by rw [upd_ne nd]; exact q⟩
    · have e : i = ds.length := by omega
      subst e
      rw [List.drop_length] at hloop
      have hloop : R.ok accD sl2 = .ok ys slF := hloop
      cases hloop
      refine .inl ⟨S.stop hsr rfl, ?_⟩
      have sn : Stp W1 H1 (fun a => W2 a ∨ a = D) H2 := ⟨st.keep, fun a ha => ha.elim (st.free a) fun e => .inr (by rw [e]; exact hD)⟩
      have hu : ∀ a, un (fun a => W2 a ∨ a = D) c.C0 a → un W2 (c.blk D).C0 a := fun a z => by
        rcases z with (z | z) | z
        · exact .inl z
        · exact .inr (.inr z)
        · exact .inr (.inl z)
      refine q _ H2 sn (SR.ofBlk sr1 sn sr2 hdat (fun a z => .inl z) hu) D (.inr rfl) nC0 ⟨acc, hDs, ra.mono fun _ _ q n => ⟨q, fun z => n (hu _ z)⟩⟩ fun i b k e1 e2 => ?_
      have hi : i ∉ own := fun hi => by
        have hl : i < slF.length := by have := (List.getElem?_eq_some_iff.mp e1).1; rwa [restore_len] at this
        rw [restore_in hi hl] at e1
        have e1 := Option.some.inj e1
        have hd := List.all_eq_true.mp hdat i hi
        cases q : sl1[i]? with
        | none => rw [q] at e1; cases e1
        | some z =>
          rw [q] at e1
          obtain rfl : z = _ := e1
          unfold isData at hd
          rw [q] at hd
          cases hd
      rw [restore_out hi] at e1
      obtain ⟨v, e3, a, ea, wa, _⟩ := sr2.slot i _ (by rw [wipeSl_out hi]; exact e1)
      rw [L2.wipe_out hi, e2] at e3
      obtain rfl := Option.some.inj (Option.some.inj e3)
      cases ea
      exact nD wa
  · exact q.elim
/-- the rule -/
theorem snd_comp (G : Good tb n c N sc X W) {Γ : Nat → List Rf.X → CR} {elt tg iter : Expr} {ifs : List Expr} {scope : Scope} {pos : Pos} {l : L} {t : T} {it : I} {cond : Ol} {own : List Nat}
    (hi : PI X tg iter (tI c W (evalI Γ it))) (hb : blkC N sc scope (ownP N own) = true) (htg : okT N scope t tg = true) (hown : (tIds t).all (fun i => decide (i ∈ own)) = true)
    (ht : ∀ (D : Addr) (s : Shared) (H : Hp) (C : Addr) (cl : List (Str × Addr)) (fp : List Addr), PTs (X.blk s H scope (compEnvC scope cl C X.env) fp) ifs (tMb (c.blk D) Wn (evalC Γ cond)))
    (he : ∀ (D : Addr) (s : Shared) (H : Hp) (C : Addr) (cl : List (Str × Addr)) (fp : List Addr), PE (X.blk s H scope (compEnvC scope cl C X.env) fp) elt (tM (c.blk D) Wn (evalE Γ l) (rP c.K)))
    (hs : ∀ x, foldedSetIterable iter X.env x = pure x) :
    PE X (.ListComp elt [⟨tg, iter, ifs, 0⟩] scope pos) (tN c W (evalN Γ (.comp l t it cond own))) := by
  have ok : BlkOk X.N X.env.scope scope (ownP N own) := by rw [G.hN, G.hsc]; exact blkOk_by hb
  refine PE.imp (pe_lc (pos := pos) (tt := fun σ H Q => ∃ D, tMb (c.blk D) Wn (evalC Γ cond) σ H Q) (te := fun σ H Q => ∃ D, tM (c.blk D) Wn (evalE Γ l) (rP c.K) σ H Q) G.calm (by rw [G.hN]; exact G.nd) hi ok (fun s H C cl fp => by
      have := snd_tgt (G.store (s := s) (H := H) (scope := scope) (C := C) (cl := cl) (fp := fp)) htg
      rw [show (X.blk s H scope (compEnvC scope cl C X.env) fp).K = c.K from G.hK] at this
      exact this)
    (fun s H C cl fp => ⟨fun pins s' σ H' Q I ⟨D, q⟩ => (ht D s H C cl fp).run pins s' σ H' Q I q⟩) (fun s H C cl fp => ⟨fun pins s' σ H' Q I ⟨D, q⟩ => (he D s H C cl fp).run pins s' σ H' Q I q⟩) hs) fun σ H Q q => ?_
  rw [ownP_snd]
  exact comp_imp hown q
end
end Rf
end
section
set_option linter.all false
set_option maxRecDepth 100000
set_option maxHeartbeats 1000000
namespace Rf
open PySem PySem.Spec PyProof.Rows L2
section
variable {tb : Tab} {n : Nat} {c : Cfg} {N : List Str} {sc : Scope} {X : Cx} {W : WX}
theorem wipe_get (σ : L2.St) (own : List Nat) (j : Nat) : (L2.wipe σ own)[j]? = if j ∈ own then (if j < σ.length then some none else none) else σ[j]? := by
  induction own with
  | nil => simp [L2.wipe]
  | cons v vs ih =>
    show ((L2.wipe σ vs).set v none)[j]? = _
    by_cases hj : v = j
    · subst hj
      by_cases hl : v < σ.length
      · rw [List.getElem?_set_self (by rw [L2.wipe_length]; exact hl)]; simp [hl]
      · rw [List.getElem?_eq_none (by rw [List.length_set, L2.wipe_length]; omega)]; simp [hl]
    · rw [List.getElem?_set_ne hj, ih]
      have e : ¬ j = v := fun z => hj z.symm
      simp [List.mem_cons, e]
theorem wipeSl_get (sl : Sl) (own : List Nat) (j : Nat) : (wipeSl sl own)[j]? = if j ∈ own then (if j < sl.length then some none else none) else sl[j]? := by
  induction own with
  | nil => simp [wipeSl]
  | cons v vs ih =>
    show ((wipeSl sl vs).set v none)[j]? = _
    by_cases hj : v = j
    · subst hj
      by_cases hl : v < sl.length
      · rw [List.getElem?_set_self (by rw [wipeSl_len]; exact hl)]; simp [hl]
      · rw [List.getElem?_eq_none (by rw [List.length_set, wipeSl_len]; omega)]; simp [hl]
    · rw [List.getElem?_set_ne hj, ih]
      have e : ¬ j = v := fun z => hj z.symm
      simp [List.mem_cons, e]
theorem wipe_over {σ : L2.St} {own own1 : List Nat} (h : ∀ i ∈ own1, i ∈ own) : L2.wipe (L2.wipe σ own1) own = L2.wipe σ own := by
  refine List.ext_getElem? fun j => ?_
  rw [wipe_get, wipe_get, wipe_get, L2.wipe_length]
  by_cases h1 : j ∈ own
  · simp [h1]
  · have h2 : j ∉ own1 := fun z => h1 (h j z)
    simp [h1, h2]
theorem wipeSl_over {sl : Sl} {own own1 : List Nat} (h : ∀ i ∈ own1, i ∈ own) : wipeSl (wipeSl sl own1) own = wipeSl sl own := by
  refine List.ext_getElem? fun j => ?_
  rw [wipeSl_get, wipeSl_get, wipeSl_get, wipeSl_len]
  by_cases h1 : j ∈ own
  · simp [h1]
  · have h2 : j ∉ own1 := fun z => h1 (h j z)
    simp [h1, h2]
/-- what stands, stands on -/
def Lift (C : Addr → Prop) (H : Hp) (C' : Addr → Prop) (H' : Hp) : Prop := ∀ a u, Rd H a u → ¬ C a → Rd H' a u ∧ ¬ C' a
theorem Lift.trans {C C1 C2 : Addr → Prop} {H H1 H2 : Hp} (a : Lift C H C1 H1) (b : Lift C1 H1 C2 H2) : Lift C H C2 H2 := fun x u q n => by
  obtain ⟨q1, n1⟩ := a x u q n
  exact b x u q1 n1
theorem Lift.put {C : Addr → Prop} {H : Hp} {D : Addr} {o : HO} (hD : C D) : Lift C H C (upd H D o) := fun a u q na => by
  have nd : a ≠ D := fun z => na (by rw [z]; exact hD)
  refine ⟨?_, na⟩
  rcases q with q | ⟨ob, q⟩
  · exact .inl (by rw [upd_ne nd]; exact q)
  · exact .inr ⟨ob, by rw [upd_ne nd]; exact q⟩
/-- the loop that fills the list D, anywhere within a comprehension -/
theorem lc_loop {Γ : Nat → List Rf.X → CR} {l : L} {t : T} {cond : Ol} {own : List Nat} (tids : ∀ i ∈ tIds t, i ∈ own) {σ : L2.St} {J : It} {ds : List D} {src : (Addr → Prop) → Hp → Prop} (S : Srv c.K J ds src) {D : Addr} {W1 : Addr → Prop} {H1 : Hp} (hD : H1 D = none)
    {Wc : Addr → Prop} {Hc : Hp} {slc : Sl} {acc0 : List V} {accD0 ys : List Rf.D} {slF : Sl} (st0 : Stp W1 H1 Wc Hc) (nWc : ¬ Wc D) (hDc : Hc D = some (.lst acc0)) (ra0 : RpAll c.K Hc (un Wc (c.blk D).C0) acc0 accD0) (sr0 : SR (c.blk D) Wc (wipeSl slc own) (L2.wipe σ own) Hc) (hsrc : src (un Wc (c.blk D).C0) Hc)
    (hq : compLoop (compTurn Γ l t cond own) ds accD0 slc = .ok ys slF) {End : Hp → Prop}
    (hend : ∀ W2 H2 acc, Stp W1 H1 W2 H2 → ¬ W2 D → H2 D = some (.lst acc) → RpAll c.K H2 (un W2 (c.blk D).C0) acc ys → SR (c.blk D) W2 (wipeSl slF own) (L2.wipe σ own) H2 → Lift (un Wc (c.blk D).C0) Hc (un W2 (c.blk D).C0) H2 → End H2) :
    ∃ Wv : Nat → Nat → Hp → Prop, (∃ m, Wv 0 m Hc) ∧ ∀ i m H, Wv i m H → (J.stop i H ∧ End H) ∨ (J.go i H ∧ ∃ Nx : Hp → Prop, (∀ H', Nx H' → ∃ m', m' < m ∧ Wv (i + 1) m' H') ∧ ∀ x H', J.yld i H x H' → gT c.K t x (L2.wipe σ own) H' fun σ2 H2 => L2.wipe σ2 own = L2.wipe σ own ∧
      (fun σ H Q => ∃ D, tMb (c.blk D) Wn (evalC Γ cond) σ H Q : TT) σ2 H2 fun b H3 => if b = true then (fun σ H Q => ∃ D, tM (c.blk D) Wn (evalE Γ l) (rP c.K) σ H Q : TE) σ2 H3 fun y H4 => ∃ acc, H4 D = some (.lst acc) ∧ acc.length < sizeLine ∧ Nx (upd H4 D (.lst (acc ++ [y]))) else Nx H3) := by
  have inC : ∀ {W : Addr → Prop}, un W (c.blk D).C0 D := fun {W} => .inr (.inr rfl)
  refine ⟨fun i m H => ∃ W2 sl2 accD acc, m = ds.length - i ∧ i ≤ ds.length ∧ Stp W1 H1 W2 H ∧ ¬ W2 D ∧ H D = some (.lst acc) ∧ RpAll c.K H (un W2 (c.blk D).C0) acc accD ∧ SR (c.blk D) W2 (wipeSl sl2 own) (L2.wipe σ own) H ∧ src (un W2 (c.blk D).C0) H ∧ Lift (un Wc (c.blk D).C0) Hc (un W2 (c.blk D).C0) H ∧
    compLoop (compTurn Γ l t cond own) (ds.drop i) accD sl2 = .ok ys slF, ⟨ds.length, Wc, slc, accD0, acc0, by simp, Nat.zero_le _, st0, nWc, hDc, ra0, sr0, hsrc, fun a u q n => ⟨q, n⟩, hq⟩, ?_⟩
  rintro i m H2 ⟨W2, sl2, accD, acc, rfl, hi, st, nD, hDs, ra, sr2, hsr, lf, hloop⟩
  by_cases hlt : i < ds.length
  · obtain ⟨d, hd⟩ : ∃ d, ds[i]? = some d := ⟨ds[i], List.getElem?_eq_getElem hlt⟩
    have hdrop : ds.drop i = d :: ds.drop (i + 1) := by
      obtain ⟨h1, h2⟩ := List.getElem?_eq_some_iff.mp hd
      rw [← h2]; exact List.drop_eq_getElem_cons h1
    rw [hdrop] at hloop
    refine .inr ⟨S.go hsr hlt, fun H' => ∃ W2' sl2' accD' acc', Stp W1 H1 W2' H' ∧ ¬ W2' D ∧ H' D = some (.lst acc') ∧ RpAll c.K H' (un W2' (c.blk D).C0) acc' accD' ∧ SR (c.blk D) W2' (wipeSl sl2' own) (L2.wipe σ own) H' ∧ src (un W2' (c.blk D).C0) H' ∧ Lift (un Wc (c.blk D).C0) Hc (un W2' (c.blk D).C0) H' ∧
      compLoop (compTurn Γ l t cond own) (ds.drop (i + 1)) accD' sl2' = .ok ys slF, fun H' ⟨W2', sl2', accD', acc', h1, h2, h3, h4, h5, h6, h7, h8⟩ => ⟨ds.length - (i + 1), by omega, W2', sl2', accD', acc', rfl, hlt, h1, h2, h3, h4, h5, h6, h7, h8⟩, fun x H3 hy => ?_⟩
    obtain ⟨g, rx⟩ := S.yld hsr sr2.trk hd hy
    have st3 : Stp W2 H2 W2 H3 := .grow g
    have sr3 := sr2.grow g
    obtain ⟨r, sl', hturn, hnext⟩ : ∃ r sl', compTurn Γ l t cond own d sl2 = .ok r sl' ∧ (match r with | some y => accD.length < sizeLine ∧ compLoop (compTurn Γ l t cond own) (ds.drop (i + 1)) (accD ++ [y]) sl' = .ok ys slF | none => compLoop (compTurn Γ l t cond own) (ds.drop (i + 1)) accD sl' = .ok ys slF) := by
      rcases compLoop_cons hloop with ⟨y, sl', h1, h2, h3⟩ | ⟨sl', h1, h3⟩
      · exact ⟨some y, sl', h1, h2, h3⟩
      · exact ⟨none, sl', h1, h3⟩
    unfold compTurn at hturn
    split at hturn
    · cases hturn
    · rename_i slA hA
      cases hc : evalC Γ cond slA with
      | stuck => rw [hc] at hturn; cases hturn
      | exc e s' => rw [hc] at hturn; cases hturn
      | ok b slB =>
      rw [hc] at hturn
      refine gT_of (c := c.blk D) (W := W2) (sl := wipeSl sl2 own) sr3 rx hA fun vs sr4 => ?_
      refine ⟨by rw [wipe_setV tids, wipe_idem], D, W2, slA, sr4, ?_⟩
      rw [hc]
      intro W3 H4 st4 sr5
      have kD : H4 D = some (.lst acc) := st4.keep D _ (st3.keep D _ hDs nD) nD
      have n3 : ¬ W3 D := fun z => by
        rcases st4.free D z with z | z
        · exact nD z
        · rw [st3.keep D _ hDs nD] at z; cases z
      have st23 : Stp W2 H2 W3 H4 := st3.trans st4
      have fin : ∀ {W5 : Addr → Prop} {H5 : Hp} {sl5 : Sl}, Stp W3 H4 W5 H5 → SR (c.blk D) W5 sl5 (setV (L2.wipe σ own) (tIds t) vs) H5 → ¬ W5 D ∧ H5 D = some (.lst acc) ∧ Stp W1 H1 W5 H5 ∧ RpAll c.K H5 (un W5 (c.blk D).C0) acc accD ∧ SR (c.blk D) W5 (wipeSl sl5 own) (L2.wipe σ own) H5 ∧ src (un W5 (c.blk D).C0) H5 ∧ Lift (un W2 (c.blk D).C0) H2 (un W5 (c.blk D).C0) H5 := fun {W5 H5 sl5} st5 sr6 => by
        have st25 := st23.trans st5
        refine ⟨fun z => ?_, st5.keep D _ kD n3, st.trans st25, RpAll.step (C0 := (c.blk D).C0) st25 ra, ?_, S.step (fun a u q n => Rd.keep (C0 := (c.blk D).C0) st25 q n) hsr, fun a u q n => Rd.keep (C0 := (c.blk D).C0) st25 q n⟩
        · rcases st5.free D z with z | z
          · exact n3 z
          · rw [kD] at z; cases z
        · have := sr6.wipe own
          rw [wipe_setV tids, wipe_idem] at this
          exact this
      cases b with
      | false =>
        cases hturn
        refine (if_neg Bool.false_ne_true).mpr ?_
        obtain ⟨f1, f2, f3, f4, f5, f6, f7⟩ := fin .refl sr5
        exact ⟨W3, _, accD, acc, f3, f1, f2, f4, f5, f6, lf.trans f7, hnext⟩
      | true =>
        refine (if_pos rfl).mpr ?_
        refine ⟨D, W3, slB, sr5, ?_⟩
        cases hel : evalE Γ l slB with
        | stuck => rw [R.bind_ok, if_pos rfl, hel] at hturn; cases hturn
        | exc e s' => rw [R.bind_ok, if_pos rfl, hel] at hturn; cases hturn
        | ok y slC =>
          rw [R.bind_ok, if_pos rfl, hel] at hturn
          cases hturn
          intro W5 H5 st5 sr6 v rv
          have rv : Rp c.K H5 (un W5 (c.blk D).C0) v y := rv
          obtain ⟨f1, f2, f3, f4, f5, f6, f7⟩ := fin st5 sr6
          obtain ⟨hsz, hnext⟩ := hnext
          have pu : Lift (un W5 (c.blk D).C0) H5 (un W5 (c.blk D).C0) (upd H5 D (.lst (acc ++ [v]))) := Lift.put inC
          refine ⟨acc, f2, by rw [f4.length]; exact hsz, W5, _, accD ++ [y], acc ++ [v], ⟨fun a o e na => ?_, f3.free⟩, f1, upd_same, (f4.append (.cons rv .nil)).mono pu, f5.foreign (.inr rfl) f1, S.step pu f6, (lf.trans f7).trans pu, hnext⟩
          have nd : a ≠ D := fun z => by subst z; rw [hD] at e; cases e
          rw [upd_ne nd]
          exact f3.keep a o e na
  · have e : i = ds.length := by omega
    subst e
    rw [List.drop_length] at hloop
    have hloop : R.ok accD sl2 = .ok ys slF := hloop
    cases hloop
    exact .inl ⟨S.stop hsr rfl, hend W2 H2 acc st nD hDs ra sr2 lf⟩

def compTurn2 (Γ : Nat → List Rf.X → CR) (elt : L) (t : T) (t1 : T) (it1 : I) (cond : Ol) (own own1 : List Nat) : D → List D → Sl → R (List D) := fun x acc sl => match assignT t x (wipeSl sl own) with
  | none => .stuck
  | some sl => (evalI Γ it1 sl).bind fun ys sl => compLoop (compTurn Γ elt t1 cond own1) ys acc sl
theorem evalE_comp2 {Γ : Nat → List Rf.X → CR} {elt : L} {t t1 : T} {it it1 : I} {cond : Ol} {own own1 : List Nat} {sl : Sl} :
    evalE Γ (.comp2 elt t it t1 it1 cond own own1) sl = (evalI Γ it sl).bind fun xs sl0 => if own.all (isData sl0) then (compOut (compTurn2 Γ elt t t1 it1 cond own own1) xs [] sl0).bind fun ys sl => .ok (.list ys) (restoreSl sl0 sl own) else .stuck := by
  simp only [evalE]
  rfl
theorem compOut_exc {turn : D → List D → Sl → R (List D)} : ∀ {xs acc : List D} {sl sl' : Sl} {e : Nat}, compOut turn xs acc sl ≠ .exc e sl'
  | [], acc, sl, sl', e => by unfold compOut; simp
  | x :: xs, acc, sl, sl', e => by
    unfold compOut
    split
    · exact compOut_exc
    · simp
theorem compOut_cons {turn : D → List D → Sl → R (List D)} {x : D} {xs acc ys : List D} {sl slF : Sl} (h : compOut turn (x :: xs) acc sl = .ok ys slF) : ∃ acc' sl', turn x acc sl = .ok acc' sl' ∧ compOut turn xs acc' sl' = .ok ys slF := by
  unfold compOut at h
  split at h
  · exact ⟨_, _, by assumption, h⟩
  · cases h
/-- the evaluator's reading is the rule's -/
theorem comp2_imp {Γ : Nat → List Rf.X → CR} {l : L} {t t1 : T} {it it1 : I} {cond : Ol} {own own1 : List Nat} (hown : (tIds t).all (fun i => decide (i ∈ own)) = true) (hown1 : (tIds t1).all (fun i => decide (i ∈ own1)) = true) (hsub : own1.all (fun i => decide (i ∈ own)) = true) {σ : L2.St} {H : Hp} {Q : VK} (h : tN c W (evalN Γ (.comp2 l t it t1 it1 cond own own1)) σ H Q) :
    tLc2 (tI c W (evalI Γ it)) (gT c.K t) (fun _ H Q => Q true H) (fun σ H R => ∃ D, tI (c.blk D) Wn (evalI Γ it1) σ H R) (gT c.K t1) (fun σ H Q => ∃ D, tMb (c.blk D) Wn (evalC Γ cond) σ H Q) (fun σ H Q => ∃ D, tM (c.blk D) Wn (evalE Γ l) (rP c.K) σ H Q) own own1 σ H Q := by
  obtain ⟨W0, sl, sr, q⟩ := h
  simp only [evalN] at q
  rw [evalE_comp2] at q
  refine ⟨W0, sl, sr, q.bind.bind.mono fun ds W1 sl1 H1 st1 sr1 q J src S hsrc D hD => ?_⟩
  split at q
  · rename_i hdat
    cases hq : compOut (compTurn2 Γ l t t1 it1 cond own own1) ds [] sl1 with
    | stuck => rw [hq] at q; exact q.elim
    | exc e sl' => exact absurd hq compOut_exc
    | ok ys slF =>
    rw [hq] at q
    have q : WP c W σ W1 H1 (.ok (.lst ys) (restoreSl sl1 slF own)) (kN c σ Q) := fun W' H' st sr => (q W' H' st sr).now sr
    have tids : ∀ i ∈ tIds t, i ∈ own := fun i hi => of_decide_eq_true (List.all_eq_true.mp hown i hi)
    have tids1 : ∀ i ∈ tIds t1, i ∈ own1 := fun i hi => of_decide_eq_true (List.all_eq_true.mp hown1 i hi)
    have sub : ∀ i ∈ own1, i ∈ own := fun i hi => of_decide_eq_true (List.all_eq_true.mp hsub i hi)
    have nC0 : ¬ c.C0 D := fun z => sr1.trk D (.inr z) hD
    have nW1 : ¬ W1 D := fun z => sr1.trk D (.inl z) hD
    have inC : ∀ {W : Addr → Prop}, un W (c.blk D).C0 D := fun {W} => .inr (.inr rfl)
    have hlift : Lift (un W1 c.C0) H1 (un W1 (c.blk D).C0) (upd H1 D (.lst [])) := fun a u r n => by
      have na : a ≠ D := fun e => by
        subst e
        rcases r with r | ⟨ob, r⟩ <;> (rw [r] at hD; cases hD)
      have g := upd_grow (o := HO.lst []) hD
      refine ⟨?_, fun z => ?_⟩
      · rcases r with r | ⟨ob, r⟩
        · exact .inl (g _ _ r)
        · exact .inr ⟨ob, g _ _ r⟩
      · rcases z with z | z | z
        · exact n (.inl z)
        · exact n (.inr z)
        · exact na z
    refine ⟨fun i m H => ∃ W2 sl2 accD acc, m = ds.length - i ∧ i ≤ ds.length ∧ Stp W1 H1 W2 H ∧ ¬ W2 D ∧ H D = some (.lst acc) ∧ RpAll c.K H (un W2 (c.blk D).C0) acc accD ∧ SR (c.blk D) W2 (wipeSl sl2 own) (L2.wipe σ own) H ∧ src (un W2 (c.blk D).C0) H ∧
      compOut (compTurn2 Γ l t t1 it1 cond own own1) (ds.drop i) accD sl2 = .ok ys slF, ⟨ds.length, W1, sl1, [], [], by simp, Nat.zero_le _, .grow (upd_grow hD), nW1, upd_same, .nil, (sr1.toBlk hD).wipe own, S.step hlift hsrc, hq⟩, ?_⟩
    rintro i m H2 ⟨W2, sl2, accD, acc, rfl, hi, st, nD, hDs, ra, sr2, hsr, hloop⟩
    by_cases hlt : i < ds.length
    · obtain ⟨d, hd⟩ : ∃ d, ds[i]? = some d := ⟨ds[i], List.getElem?_eq_getElem hlt⟩
      have hdrop : ds.drop i = d :: ds.drop (i + 1) := by
        obtain ⟨h1, h2⟩ := List.getElem?_eq_some_iff.mp hd
        rw [← h2]; exact List.drop_eq_getElem_cons h1
      rw [hdrop] at hloop
      obtain ⟨accN, slN, hturn, hnext⟩ := compOut_cons hloop
      refine .inr ⟨S.go hsr hlt, fun H' => ∃ W2' sl2' accD' acc', Stp W1 H1 W2' H' ∧ ¬ W2' D ∧ H' D = some (.lst acc') ∧ RpAll c.K H' (un W2' (c.blk D).C0) acc' accD' ∧ SR (c.blk D) W2' (wipeSl sl2' own) (L2.wipe σ own) H' ∧ src (un W2' (c.blk D).C0) H' ∧
        compOut (compTurn2 Γ l t t1 it1 cond own own1) (ds.drop (i + 1)) accD' sl2' = .ok ys slF, fun H' ⟨W2', sl2', accD', acc', h1, h2, h3, h4, h5, h6, h7⟩ => ⟨ds.length - (i + 1), by omega, W2', sl2', accD', acc', rfl, hlt, h1, h2, h3, h4, h5, h6, h7⟩, fun x H3 hy => ?_⟩
      obtain ⟨g, rx⟩ := S.yld hsr sr2.trk hd hy
      have st3 : Stp W2 H2 W2 H3 := .grow g
      have sr3 := sr2.grow g
      unfold compTurn2 at hturn
      split at hturn
      · cases hturn
      · rename_i slA hA
        cases hi1 : evalI Γ it1 slA with
        | stuck => rw [hi1] at hturn; cases hturn
        | exc e s' => rw [hi1] at hturn; cases hturn
        | ok es slB =>
        rw [hi1] at hturn
        have hturn : compLoop (compTurn Γ l t1 cond own1) es accD slB = .ok accN slN := hturn
        refine gT_of (c := c.blk D) (W := W2) (sl := wipeSl sl2 own) sr3 rx hA fun vs sr4 => ?_
        refine ⟨by rw [wipe_setV tids, wipe_idem], (if_pos rfl).mpr ⟨D, W2, slA, sr4, ?_⟩⟩
        rw [hi1]
        intro W3 H4 st4 sr5 J1 src1 S1 hsrc1
        have kD : H4 D = some (.lst acc) := st4.keep D _ (st3.keep D _ hDs nD) nD
        have n3 : ¬ W3 D := fun z => by
          rcases st4.free D z with z | z
          · exact nD z
          · rw [st3.keep D _ hDs nD] at z; cases z
        have st23 : Stp W2 H2 W3 H4 := st3.trans st4
        have lf : Lift (un W2 (c.blk D).C0) H2 (un W3 (c.blk D).C0) H4 := fun a u q n => Rd.keep (C0 := (c.blk D).C0) st23 q n
        refine lc_loop (c := c) (σ := setV (L2.wipe σ own) (tIds t) vs) tids1 S1 hD (st.trans st23) n3 kD (ra.mono lf) (sr5.wipe own1) hsrc1 hturn fun W5 H5 acc5 st5 n5 k5 ra5 sr6 lf5 => ?_
        refine ⟨W5, slN, accN, acc5, st5, n5, k5, ra5, ?_, S.step (lf.trans lf5) hsr, hnext⟩
        have := sr6.wipe own
        rw [wipeSl_over sub, wipe_over sub, wipe_setV tids, wipe_idem] at this
        exact this
    · have e : i = ds.length := by omega
      subst e
      rw [List.drop_length] at hloop
      have hloop : R.ok accD sl2 = .ok ys slF := hloop
      cases hloop
      refine .inl ⟨S.stop hsr rfl, ?_⟩
      have sn : Stp W1 H1 (fun a => W2 a ∨ a = D) H2 := ⟨st.keep, fun a ha => ha.elim (st.free a) fun e => .inr (by rw [e]; exact hD)⟩
      have hu : ∀ a, un (fun a => W2 a ∨ a = D) c.C0 a → un W2 (c.blk D).C0 a := fun a z => by
        rcases z with (z | z) | z
        · exact .inl z
        · exact .inr (.inr z)
        · exact .inr (.inl z)
      refine q _ H2 sn (SR.ofBlk sr1 sn sr2 hdat (fun a z => .inl z) hu) D (.inr rfl) nC0 ⟨acc, hDs, ra.mono fun _ _ q n => ⟨q, fun z => n (hu _ z)⟩⟩ fun i b k e1 e2 => ?_
      have hi : i ∉ own := fun hi => by
        have hl : i < slF.length := by have := (List.getElem?_eq_some_iff.mp e1).1; rwa [restore_len] at this
        rw [restore_in hi hl] at e1
        have e1 := Option.some.inj e1
        have hd := List.all_eq_true.mp hdat i hi
        cases q : sl1[i]? with
        | none => rw [q] at e1; cases e1
        | some z =>
          rw [q] at e1
          obtain rfl : z = _ := e1
          unfold isData at hd
          rw [q] at hd
          cases hd
      rw [restore_out hi] at e1
      obtain ⟨v, e3, a, ea, wa, _⟩ := sr2.slot i _ (by rw [wipeSl_out hi]; exact e1)
      rw [L2.wipe_out hi, e2] at e3
      obtain rfl := Option.some.inj (Option.some.inj e3)
      cases ea
      exact nD wa
  · exact q.elim
/-- the rule -/
theorem snd_comp2 (G : Good tb n c N sc X W) {Γ : Nat → List Rf.X → CR} {elt tg iter tg1 iter1 : Expr} {ifs1 : List Expr} {scope : Scope} {pos : Pos} {l : L} {t t1 : T} {it it1 : I} {cond : Ol} {own own1 : List Nat}
    (hi : PI X tg iter (tI c W (evalI Γ it))) (hb : blkC N sc scope (ownP N own) = true) (htg : okT N scope t tg = true) (htg1 : okT N scope t1 tg1 = true) (hown : (tIds t).all (fun i => decide (i ∈ own)) = true) (hown1 : (tIds t1).all (fun i => decide (i ∈ own1)) = true) (hsub : own1.all (fun i => decide (i ∈ own)) = true)
    (hi1 : ∀ (D : Addr) (s : Shared) (H : Hp) (C : Addr) (cl : List (Str × Addr)) (fp : List Addr), PI (X.blk s H scope (compEnvC scope cl C X.env) fp) tg1 iter1 (tI (c.blk D) Wn (evalI Γ it1)))
    (ht : ∀ (D : Addr) (s : Shared) (H : Hp) (C : Addr) (cl : List (Str × Addr)) (fp : List Addr), PTs (X.blk s H scope (compEnvC scope cl C X.env) fp) ifs1 (tMb (c.blk D) Wn (evalC Γ cond)))
    (he : ∀ (D : Addr) (s : Shared) (H : Hp) (C : Addr) (cl : List (Str × Addr)) (fp : List Addr), PE (X.blk s H scope (compEnvC scope cl C X.env) fp) elt (tM (c.blk D) Wn (evalE Γ l) (rP c.K)))
    (hs : ∀ x, foldedSetIterable iter X.env x = pure x) (hs1 : ∀ env x, foldedSetIterable iter1 env x = pure x) :
    PE X (.ListComp elt [⟨tg, iter, [], 0⟩, ⟨tg1, iter1, ifs1, 0⟩] scope pos) (tN c W (evalN Γ (.comp2 l t it t1 it1 cond own own1))) := by
  have ok : BlkOk X.N X.env.scope scope (ownP N own) := by rw [G.hN, G.hsc]; exact blkOk_by hb
  have tgt : ∀ {t : T} {tg : Expr}, okT N scope t tg = true → ∀ (s : Shared) (H : Hp) (C : Addr) (cl : List (Str × Addr)) (fp : List Addr), PG (X.blk s H scope (compEnvC scope cl C X.env) fp) tg (gT c.K t) := fun h s H C cl fp => by
    have := snd_tgt (G.store (s := s) (H := H) (scope := scope) (C := C) (cl := cl) (fp := fp)) h
    rw [show (X.blk s H scope (compEnvC scope cl C X.env) fp).K = c.K from G.hK] at this
    exact this
  refine PE.imp (pe_lc2 (pos := pos) (vs1 := own1) (tt := fun _ H Q => Q true H) (wi1 := fun σ H R => ∃ D, tI (c.blk D) Wn (evalI Γ it1) σ H R) (tt1 := fun σ H Q => ∃ D, tMb (c.blk D) Wn (evalC Γ cond) σ H Q) (te := fun σ H Q => ∃ D, tM (c.blk D) Wn (evalE Γ l) (rP c.K) σ H Q) G.calm (by rw [G.hN]; exact G.nd) hi ok
    (fun i hi => by rw [ownP_snd]; exact of_decide_eq_true (List.all_eq_true.mp hsub i hi)) (tgt htg) (fun s H C cl fp => pts_nil)
    (fun s H C cl fp => ⟨fun pins s' σ H' R I ⟨D, q⟩ => (hi1 D s H C cl fp).run pins s' σ H' R I q⟩) (tgt htg1)
    (fun s H C cl fp => ⟨fun pins s' σ H' Q I ⟨D, q⟩ => (ht D s H C cl fp).run pins s' σ H' Q I q⟩) (fun s H C cl fp => ⟨fun pins s' σ H' Q I ⟨D, q⟩ => (he D s H C cl fp).run pins s' σ H' Q I q⟩) hs hs1) fun σ H Q q => ?_
  rw [ownP_snd]
  exact comp2_imp hown hown1 hsub q
end
end Rf
end
section
set_option linter.all false
set_option maxRecDepth 100000
set_option maxHeartbeats 1000000
namespace Rf
open PySem PySem.Spec PyProof.Rows L2
/-- at a moment: the library's walk from here, and what it means to the abstract heap -/
def WNow (X : Cx) (J : It) (fp : List Addr) (it : Addr) (tn : Nat → Heap → Prop) (i : Nat) (s : Shared) (H : Hp) : Prop :=
  ∃ (fq wr : List Addr) (n : Nat) (Pt : Nat → Array Value → Prop) (St : Nat → Heap → Prop) (Mid : Nat → Addr → Heap → Prop), WalksT X.prog X.w X.A it fq wr n Pt St Mid ∧ St i s.heap ∧ (∀ j h, St j h → tn j h) ∧ (∀ b ∈ wr, b ∈ fp) ∧
    (J.go i H → i < n) ∧ (J.stop i H → i = n) ∧ ∀ vals, Pt i vals → ∃ xs, Vals xs vals.toList ∧ xs.length ≤ sizeLine ∧ ∀ T, H T = none → J.yld i H (.ref T) (upd H T (.tup xs))
theorem turn_w {P : Program} {w : World} {K : PySem.W.Frag} {elts : List Expr} {kk : Nat} {tpos : Pos} {J : It} {fp : List Addr} {it : Addr} {tn : Nat → Heap → Prop} (mem : it ∈ fp) (obj : ∀ i h, tn i h → ∀ b ∈ fp, ∃ o, h.get? b = some o ∧ ∀ v, o.data ≠ .cell v)
    (keep : ∀ i h h', tn i h → (∀ b ∈ fp, ∀ o, h.get? b = some o → h'.get? b = some o) → tn i h')
    (now : ∀ (X : Cx), X.K = K → X.calm = true → ∀ (i : Nat) (pins : List (Addr × Obj)) (s : Shared) (σ : L2.St) (H : Hp), Inv X pins σ H s → tn i s.heap → J.go i H ∨ J.stop i H → WNow X J fp it tn i s H)
    (self : ∀ (A : Around) (i : Nat) (s : Shared) (Q E : Value → Shared → Prop), tn i s.heap → Q (.ref it) s → wpAny (model P w) A (pyIter (.ref it)) Q E s) : Turn P w K (.Tuple elts kk tpos) J fp it tn := by
  refine ⟨mem, obj, keep, ?_, ?_, self⟩
  · intro X e1 e2 e3 calm i pins s σ H E inv free at_ go
    subst e1 e2
    obtain ⟨fq, wr, n, Pt, St, Mid, wk, st, back, sub, lt, _, val⟩ := now X e3 calm i pins s σ H inv at_ (.inl go)
    refine wk.item i s _ E (lt go) st fun T vals h1 tk hp big tup mid k1 => ⟨_, rfl, wk.go elts kk tpos i T ⟨h1, s.gens, s.drawn, tk, s.os⟩ _ E mid fun h2 st2 k2 => ?_⟩
    obtain ⟨xs, vx, len, yl⟩ := val vals hp
    have apart := wk.apart i T h1 mid
    have all : ∀ b ob, b ∉ fp → s.heap.get? b = some ob → h2.get? b = some ob := fun b ob nb e => k2 b ob (fun z => nb (sub b z)) (k1 b ob (fun z => nb (sub b z)) e)
    obtain ⟨ot, et, ct, nt, dt⟩ := tup
    have made : ObjOk X.prog X.w (upd H T (.tup xs)) h2 T (.tup xs) := ⟨len, vals.toList, vx, ot, k2 T ot apart et, ct, nt, by rw [Array.toArray_toList]; exact dt⟩
    have hT : H T = none := inv.hok.fresh big
    refine ⟨.ref T, _, inv.turnedNew (t' := tk) (ch := fp) all free big made, rfl, yl T hT, back _ _ st2, fun b hb => ?_⟩
    have ne : b ≠ T := fun e => by
      obtain ⟨o, eo, _⟩ := obj i s.heap at_ b hb
      have small : (b : Nat) < s.heap.objs.size := Heap.lt_size eo
      rw [e] at small
      exact absurd (Nat.lt_of_lt_of_le small big) (Nat.lt_irrefl _)
    rw [upd_ne ne]
    exact (free b hb).1
  · intro X e1 e2 e3 calm i pins s σ H E inv free at_ stop
    subst e1 e2
    obtain ⟨fq, wr, n, Pt, St, Mid, wk, st, back, sub, _, eq, val⟩ := now X e3 calm i pins s σ H inv at_ (.inr stop)
    obtain rfl := eq stop
    exact wk.done s _ E st fun h1 tk k1 => ⟨rfl, inv.turnedL (t' := tk) (ch := fp) (fun b ob nb e => k1 b ob (fun z => nb (sub b z)) e) free⟩
end Rf
end
section
set_option linter.all false
set_option maxRecDepth 100000
set_option maxHeartbeats 1000000
namespace Rf
open PySem PySem.Spec PyProof.Rows L2

inductive Sk where
  | lst (a : Addr) | tup (a : Addr) | txt (x : Str)
def signV (x : Str) : List V := x.cps.toList.map fun c => .str ⟨#[c]⟩
def skV (K : PySem.W.Frag) (H : Hp) : Sk → List V → Prop
  | .lst a, xs => SqL K H a xs
  | .tup a, xs => SqT K H a xs
  | .txt x, xs => xs = signV x
def skIt (h : Heap) (it : Addr) : Sk → Nat → Prop
  | .lst a, i => h.IsListIter it a i
  | .tup a, i => h.IsTupleIter it a i
  | .txt x, i => ∃ t, h.IsStrIter it (strIterType x) x t i
def skA : Sk → List Addr
  | .lst a => [a]
  | .tup a => [a]
  | .txt _ => []
theorem skIt.at {h h' : Heap} {it : Addr} {k : Sk} {i : Nat} (x : skIt h it k i) (hk : ∀ o, h.get? it = some o → h'.get? it = some o) : skIt h' it k i := by
  cases k with
  | lst a => exact Heap.IsListIter.at x hk
  | tup a => exact Heap.IsTupleIter.at x hk
  | txt s =>
    obtain ⟨t, o, ho, r⟩ := x
    exact ⟨t, o, hk o ho, r⟩
theorem skIt.obj {h : Heap} {it : Addr} {k : Sk} {i : Nat} (x : skIt h it k i) : ∃ o, h.get? it = some o ∧ ∀ v, o.data ≠ .cell v := by
  cases k with
  | lst a => obtain ⟨o, e, _, d⟩ := x; exact ⟨o, e, fun v q => by rw [d] at q; cases q⟩
  | tup a => obtain ⟨o, e, _, d⟩ := x; exact ⟨o, e, fun v q => by rw [d] at q; cases q⟩
  | txt s => obtain ⟨t, o, e, _, d⟩ := x; exact ⟨o, e, fun v q => by rw [d] at q; cases q⟩
/-- what a source draws now -/
theorem sk_draws {X : Cx} {pins : List (Addr × Obj)} {σ : L2.St} {H : Hp} {s : Shared} {k : Sk} {xs : List V} {it : Addr} {i : Nat} (I : Inv X pins σ H s) (hc : X.calm = true) (hv : skV X.K H k xs) (hit : skIt s.heap it k i) (hne : ∀ a ∈ skA k, a ≠ it) :
    ∃ P St, Draws X.prog X.w X.A.in1 it (it :: skA k) xs.length P St ∧ St i s.heap ∧ (∀ j u, P j u → ∃ x, xs[j]? = some x ∧ RelV x u) ∧ ∀ j h, St j h → skIt h it k j := by
  have hh : X.A.in1.handled = none := I.ok.hd hc
  cases k with
  | lst a =>
    obtain ⟨its, rv, p, hz⟩ := I.list hv
    have D := Draws.list (prog := X.prog) (w := X.w) (A := X.A.in1) hh it a (hne a (by simp [skA])) its.toArray
    have hl : its.toArray.size = xs.length := by rw [List.size_toArray]; exact rv.length.symm
    rw [hl] at D
    refine ⟨_, _, D, ⟨hit, p.isList⟩, fun j u hu => ?_, fun j h st => st.1⟩
    have hu : its[j]? = some u := by simpa using hu
    have hlt : j < xs.length := by
      have := (List.getElem?_eq_some_iff.mp hu).1
      have := rv.length
      omega
    obtain ⟨x, hx⟩ : ∃ x, xs[j]? = some x := ⟨xs[j], List.getElem?_eq_getElem hlt⟩
    obtain ⟨u', hu', ru⟩ := rv.get hx
    obtain rfl : u' = u := Option.some.inj (hu'.symm.trans hu)
    exact ⟨x, hx, ru⟩
  | tup a =>
    obtain ⟨its, rv, p, hz⟩ := I.tuple hv
    have D := Draws.tuple (prog := X.prog) (w := X.w) (A := X.A.in1) hh it a (hne a (by simp [skA])) its.toArray
    have hl : its.toArray.size = xs.length := by rw [List.size_toArray]; exact rv.length.symm
    rw [hl] at D
    refine ⟨_, _, D, ⟨hit, p⟩, fun j u hu => ?_, fun j h st => st.1⟩
    have hu : its[j]? = some u := by simpa using hu
    have hlt : j < xs.length := by
      have := (List.getElem?_eq_some_iff.mp hu).1
      have := rv.length
      omega
    obtain ⟨x, hx⟩ : ∃ x, xs[j]? = some x := ⟨xs[j], List.getElem?_eq_getElem hlt⟩
    obtain ⟨u', hu', ru⟩ := rv.get hx
    obtain rfl : u' = u := Option.some.inj (hu'.symm.trans hu)
    exact ⟨x, hx, ru⟩
  | txt x =>
    obtain rfl : xs = signV x := hv
    obtain ⟨t, hit⟩ := hit
    have D := Draws.text (prog := X.prog) (w := X.w) (A := X.A.in1) hh it x t
    have hl : x.cps.size = (signV x).length := by unfold signV; rw [List.length_map, Array.length_toList]
    rw [hl] at D
    refine ⟨_, _, D, hit, fun j u ⟨c, tk, hcj, hu⟩ => ?_, fun j h st => ⟨t, st⟩⟩
    subst hu
    refine ⟨.str ⟨#[c]⟩, ?_, ⟨tk, rfl⟩⟩
    unfold signV
    rw [List.getElem?_map, Array.getElem?_toList, hcj]
    rfl
theorem skV_inj {X : Cx} {pins : List (Addr × Obj)} {σ : L2.St} {H : Hp} {s : Shared} {k : Sk} {xs ys : List V} (I : Inv X pins σ H s) (h : skV X.K H k xs) (h' : skV X.K H k ys) : xs = ys := by
  cases k with
  | lst a => exact I.list_inj h h'
  | tup a => exact I.tuple_inj h h'
  | txt x => exact Eq.trans h (Eq.symm h')

/-- zip -/
def Jz (K : PySem.W.Frag) (k1 k2 : Sk) : It :=
  ⟨fun i H => ∃ (xs ys : List V), skV K H k1 xs ∧ skV K H k2 ys ∧ i < xs.length ∧ i < ys.length,
    fun i H v H' => ∃ T x y, v = .ref T ∧ H T = none ∧ H' = upd H T (.tup [x, y]) ∧ (∀ xs, skV K H k1 xs → xs[i]? = some x) ∧ ∀ ys, skV K H k2 ys → ys[i]? = some y,
    fun i H => ∃ xs ys : List V, skV K H k1 xs ∧ skV K H k2 ys ∧ i ≤ xs.length ∧ i ≤ ys.length ∧ (i = xs.length ∨ i = ys.length)⟩
theorem turn_z {P : Program} {w : World} {K : PySem.W.Frag} {elts : List Expr} {kk : Nat} {tpos : Pos} {z TI TO i1 i2 : Addr} {k1 k2 : Sk} (S : ZipSep2 z TI TO i1 i2 (i1 :: skA k1) (i2 :: skA k2)) (n1 : ∀ a ∈ skA k1, a ≠ i1) (n2 : ∀ a ∈ skA k2, a ≠ i2) :
    Turn P w K (.Tuple elts kk tpos) (Jz K k1 k2) [z, TI, TO, i1, i2] z (fun i h => IsZip h z TI TO .none ∧ IsTupOf2 h TI (.ref i1) (.ref i2) ∧ (∃ x y, IsTupOf2 h TO x y) ∧ skIt h i1 k1 i ∧ skIt h i2 k2 i) := by
  refine turn_w (by simp) (fun i h ⟨a1, a2, ⟨x, y, a3⟩, a4, a5⟩ b hb => ?_) (fun i h h' ⟨a1, a2, ⟨x, y, a3⟩, a4, a5⟩ k => ?_) (fun X eK calm i pins s σ H inv ⟨a1, a2, ⟨x, y, a3⟩, a4, a5⟩ gs => ?_) fun A i s Q E at_ q => wpAny_pyIter_zip at_.1 q
  · simp only [List.mem_cons, List.not_mem_nil, or_false] at hb
    rcases hb with rfl | rfl | rfl | rfl | rfl
    · exact ⟨_, a1, by simp⟩
    · exact ⟨_, a2, by simp⟩
    · exact ⟨_, a3, by simp⟩
    · exact a4.obj
    · exact a5.obj
  · exact ⟨k _ (by simp) _ a1, k _ (by simp) _ a2, ⟨x, y, k _ (by simp) _ a3⟩, a4.at (k _ (by simp)), a5.at (k _ (by simp))⟩
  · subst eK
    have both : ∃ xs ys, skV X.K H k1 xs ∧ skV X.K H k2 ys := gs.elim (fun ⟨xs, ys, c1, c2, _⟩ => ⟨xs, ys, c1, c2⟩) fun ⟨xs, ys, c1, c2, _⟩ => ⟨xs, ys, c1, c2⟩
    obtain ⟨xs, ys, c1, c2⟩ := both
    obtain ⟨P1, St1, D1, b1, p1, t1⟩ := sk_draws inv calm c1 a4 n1
    obtain ⟨P2, St2, D2, b2, p2, t2⟩ := sk_draws inv calm c2 a5 n2
    refine ⟨_, _, _, _, _, _, WalksT.zipD2 S D1 D2, ⟨a1, a2, ⟨x, y, a3⟩, b1, b2⟩, fun j h ⟨d1, d2, d3, d4, d5⟩ => ⟨d1, d2, d3, t1 j h d4, t2 j h d5⟩, fun b hb => ?_, fun ⟨us, vs, g1, g2, g3, g4⟩ => ?_, fun ⟨us, vs, g1, g2, g3, g4, g5⟩ => ?_, fun vals ⟨u1, u2, v1, v2, ev⟩ => ?_⟩
    · simp only [List.mem_cons, List.not_mem_nil, or_false] at hb ⊢
      rcases hb with z1 | z1 | z1 | z1
      · exact .inl z1
      · exact .inr (.inr (.inl z1))
      · exact .inr (.inr (.inr (.inl z1)))
      · exact .inr (.inr (.inr (.inr z1)))
    · rw [skV_inj inv g1 c1] at g3
      rw [skV_inj inv g2 c2] at g4
      omega
    · rw [skV_inj inv g1 c1] at g3 g5
      rw [skV_inj inv g2 c2] at g4 g5
      omega
    · subst ev
      obtain ⟨x1, q1, r1⟩ := p1 i u1 v1
      obtain ⟨x2, q2, r2⟩ := p2 i u2 v2
      exact ⟨[x1, x2], .cons r1 (.cons r2 .nil), by show 2 ≤ sizeLine; decide, fun T hT => ⟨T, x1, x2, rfl, hT, rfl, fun l hl => by rw [skV_inj inv hl c1]; exact q1, fun l hl => by rw [skV_inj inv hl c2]; exact q2⟩⟩

/-- how a source begins -/
theorem sk_begins {X : Cx} {pins : List (Addr × Obj)} {σ : L2.St} {H : Hp} {s : Shared} {k : Sk} {xs : List V} {v : V} {u : Value} (I : Inv X pins σ H s) (hv : skV X.K H k xs) (hkv : v = match k with | .lst a => .ref a | .tup a => .ref a | .txt x => .str x) (r : RelV v u) :
    ∃ o HH, Begins u o HH ∧ HH s.heap ∧ (∀ a ∈ skA k, a < s.heap.objs.size) ∧ ∀ h it, h.get? it = some o → skIt h it k 0 := by
  cases k with
  | lst a =>
    subst hkv
    cases r
    obtain ⟨its, rv, p, hz⟩ := I.list hv
    refine ⟨_, _, begins_list a its.toArray, p.isList, fun b hb => ?_, fun h it e => ⟨_, e, rfl, rfl⟩⟩
    have : b = a := by simpa [skA] using hb
    rw [this]; exact p.lt
  | tup a =>
    subst hkv
    cases r
    obtain ⟨its, rv, p, hz⟩ := I.tuple hv
    refine ⟨_, _, begins_tuple a its.toArray, p, fun b hb => ?_, fun h it e => ⟨_, e, rfl, rfl⟩⟩
    have : b = a := by simpa [skA] using hb
    rw [this]
    obtain ⟨o, e, _⟩ := p
    exact Heap.lt_size e
  | txt x =>
    subst hkv
    obtain ⟨t, rfl⟩ := (show ∃ t, u = Value.str x t from r)
    exact ⟨_, _, begins_text x t, trivial, fun b hb => absurd hb (by simp [skA]), fun h it e => ⟨t, _, e, rfl, rfl⟩⟩
def skVal : Sk → V
  | .lst a => .ref a
  | .tup a => .ref a
  | .txt x => .str x
def iZ (K : PySem.W.Frag) (ta : TA) : TI := fun σ H R => ta σ H fun vs H1 => ∃ k1 k2 xs ys, vs = [skVal k1, skVal k2] ∧ skV K H1 k1 xs ∧ skV K H1 k2 ys ∧ R (Jz K k1 k2) H1
theorem pi_z {X : Cx} {e e2 : Expr} {ta : TA} {p pos tpos : Pos} {elts : List Expr} {kk : Nat} (hg : Gl X "zip") (hm : X.mg "zip" = none) (ha : PA X [e, e2] ta)
    (hs : starEach [e, e2] X.env = (false, eval e X.env) :: starEach [e2] X.env) (hpl : (backTo pos (starEach [e2] X.env)).any (·.1) = false) :
    PI X (.Tuple elts kk tpos) (.Call (.Name "zip" p) [e, e2] [] pos) (iZ X.K ta) := by
  refine ⟨fun pins s σ H R I h => ?_⟩
  refine Call_ (ld_blt I hg hm PyProof.Rows.boot_zip (PyProof.Rows.callWith_type1 (thn (ha.run pos pins s σ H _ I h) fun us s1 ⟨vs, H1, I1, r1, q1⟩ => ?_) hs hpl))
  obtain ⟨k1, k2, xs, ys, ex, hqx, hqy, q⟩ := q1
  subst ex
  cases r1 with
  | cons r rr =>
    cases rr with
    | cons r' rr =>
      cases rr
      obtain ⟨o1, HH1, B1, b1, l1, t1⟩ := sk_begins I1 hqx (by cases k1 <;> rfl) r
      obtain ⟨o2, HH2, B2, b2, l2, t2⟩ := sk_begins I1 hqy (by cases k2 <;> rfl) r'
      refine zip_begins2 B1 B2 b1 b2 fun h' hz hTI hTO h1 h2 hsz hk => wpAny_pyIter_zip hz ?_
      have I2 : Inv X pins σ H1 { s1 with heap := h' } := I1.kept (t' := s1.toks) hk
      refine ⟨s1.heap.objs.size + 4, [s1.heap.objs.size + 4, s1.heap.objs.size + 2, s1.heap.objs.size + 3, s1.heap.objs.size, s1.heap.objs.size + 1], _, _, H1, rfl, I2, turn_z (zip_sep2 l1 l2) (fun a ha e => ?_) (fun a ha e => ?_), ⟨hz, hTI, ⟨_, _, hTO⟩, t1 _ _ h1, t2 _ _ h2⟩, fun c hcm => ?_, q⟩
      · have hlt : (a : Nat) < s1.heap.objs.size := l1 a ha
        rw [e] at hlt
        exact absurd hlt (Nat.lt_irrefl _)
      · have hlt : (a : Nat) < s1.heap.objs.size := l2 a ha
        rw [e] at hlt
        exact absurd (Nat.lt_of_lt_of_le hlt (Nat.le_add_right _ _)) (Nat.lt_irrefl _)
      have e' : c = s1.heap.objs.size + 4 ∨ c = s1.heap.objs.size + 2 ∨ c = s1.heap.objs.size + 3 ∨ c = s1.heap.objs.size ∨ c = s1.heap.objs.size + 1 := by simpa using hcm
      have hle : s1.heap.objs.size ≤ c := by
        rcases e' with z | z | z | z | z
        · rw [z]; exact Nat.le_add_right _ _
        · rw [z]; exact Nat.le_add_right _ _
        · rw [z]; exact Nat.le_add_right _ _
        · rw [z]; exact Nat.le_refl _
        · rw [z]; exact Nat.le_add_right _ _
      exact I1.fpOk hle (I1.hok.fresh hle)

set_option maxHeartbeats 1000000 in
theorem meets_enum1 {v : Value} {o : Obj} {H : Heap → Prop} (B : Begins v o H) :
    Meets (Builtin.«enumerate.__new__» ⟨[.type "enumerate", v], []⟩) (fun _ R s => H s.heap ∧
      R (.ok (.ret (.ref (s.heap.push o).objs.size))) { s with heap := (s.heap.push o).push { cls := .type "enumerate", data := .fields #[.none, .bool false, .ref s.heap.objs.size, rawInt 0, .none, .none] } }) :=
  .of_wp fun prog w A R s h => by
    obtain ⟨hp, g, d, tk, os⟩ := s; obtain ⟨h1, h⟩ := h
    have hsub := sub_enumerate
    have q1 : ∀ {A' : Around} {E : Value → Shared → Prop} {Q : Value → Shared → Prop}, Q (.ref hp.objs.size) ⟨hp.push o, g, d, tk, os⟩ → wpAny (model prog w) A' (pyIter v) Q E ⟨hp, g, d, tk, os⟩ :=
      fun q => B.iter prog w _ _ ⟨hp, g, d, tk, os⟩ _ h1 q
    wp_walk using q1
    refine wpAny_stack_any fun st => wpAny_pure ?_
    split
    · rename_i c _ _ _ _ _
      cases (c == Value.type "enumerate")
      · wp_walk using q1
        exact ⟨_, rfl, h⟩
      · wp_walk using q1
        exact ⟨_, rfl, h⟩
    · wp_walk using q1
      exact ⟨_, rfl, h⟩
theorem enum_begins1 {prog : Program} {w : World} {A : Around} {E : Value → Shared → Prop} {s : Shared} {v : Value} {o : Obj} {H : Heap → Prop} {Q : Value → Shared → Prop} (B : Begins v o H) (h1 : H s.heap)
    (h : ∀ h', IsEnum h' (s.heap.objs.size + 1) s.heap.objs.size 0 .none → h'.get? s.heap.objs.size = some o → (∀ b o, s.heap.get? b = some o → h'.get? b = some o) → Q (.ref (s.heap.objs.size + 1)) { s with heap := h' }) :
    wpAny (model prog w) A (call (.type "enumerate") [v]) Q E s := by
  refine callType_new F.called_enumerate (by decide) (F.typeCall_enumerate_1 _) (F.newCall_enumerate_1 _) (fun obj => F.args_object_init_2 obj _) F.entry_enumerate_new
    (meets_enum1 B) ⟨h1, ?_⟩
  have hz : (s.heap.push o).objs.size = s.heap.objs.size + 1 := Heap.size_push ..
  show _ ∧ _
  rw [hz]
  have he : IsEnum ((s.heap.push o).push { cls := .type "enumerate", data := .fields #[.none, .bool false, .ref s.heap.objs.size, rawInt 0, .none, .none] }) (s.heap.objs.size + 1) s.heap.objs.size 0 .none := by
    have := Heap.get?_push_size (s.heap.push o) (o := { cls := .type "enumerate", data := .fields #[.none, .bool false, .ref s.heap.objs.size, rawInt 0, .none, .none] }) rfl
    rw [hz] at this; exact this
  exact ⟨⟨_, he, rfl⟩, h _ he (Heap.get?_push_of_some _ (Heap.get?_push_size _ B.free)) fun b o x => Heap.get?_push_of_some _ (Heap.get?_push_of_some _ x)⟩
def Je (K : PySem.W.Frag) (k : Sk) : It :=
  ⟨fun i H => ∃ (xs : List V), skV K H k xs ∧ i < xs.length,
    fun i H v H' => ∃ T x, v = .ref T ∧ H T = none ∧ H' = upd H T (.tup [.int (i : Nat), x]) ∧ (∀ xs, skV K H k xs → xs[i]? = some x),
    fun i H => ∃ xs : List V, skV K H k xs ∧ i = xs.length⟩
theorem turn_e {P : Program} {w : World} {K : PySem.W.Frag} {elts : List Expr} {kk : Nat} {tpos : Pos} {e it : Addr} {k : Sk} (hne : e ≠ it) (hek : e ∉ it :: skA k) (n1 : ∀ a ∈ skA k, a ≠ it) :
    Turn P w K (.Tuple elts kk tpos) (Je K k) [e, it] e (fun i h => (∃ old, IsEnum h e it ((i : Nat) : Int) old) ∧ skIt h it k i) := by
  refine turn_w (by simp) (fun i h ⟨⟨old, a1⟩, a2⟩ b hb => ?_) (fun i h h' ⟨⟨old, a1⟩, a2⟩ kp => ⟨⟨old, kp _ (by simp) _ a1⟩, a2.at (kp _ (by simp))⟩) (fun X eK calm i pins s σ H inv ⟨a1, a2⟩ gs => ?_) fun A i s Q E ⟨⟨_, a1⟩, _⟩ q => wpAny_pyIter_enum a1 q
  · simp only [List.mem_cons, List.not_mem_nil, or_false] at hb
    rcases hb with rfl | rfl
    · exact ⟨_, a1, by simp⟩
    · exact a2.obj
  · subst eK
    have one : ∃ xs, skV X.K H k xs := gs.elim (fun ⟨xs, c1, _⟩ => ⟨xs, c1⟩) fun ⟨xs, c1, _⟩ => ⟨xs, c1⟩
    obtain ⟨xs, c1⟩ := one
    obtain ⟨P1, St1, D1, b1, p1, t1⟩ := sk_draws inv calm c1 a2 n1
    refine ⟨_, _, _, _, _, _, WalksT.enumerateD D1 e hne hek (by simp), ⟨a1, b1⟩, fun j h ⟨d1, d2⟩ => ⟨d1, t1 j h d2⟩, fun b hb => hb, fun ⟨us, g1, g2⟩ => ?_, fun ⟨us, g1, g2⟩ => ?_, fun vals ⟨tk, u1, v1, ev⟩ => ?_⟩
    · rw [skV_inj inv g1 c1] at g2
      exact g2
    · rw [skV_inj inv g1 c1] at g2
      exact g2
    · subst ev
      obtain ⟨x1, q1, r1⟩ := p1 i u1 v1
      exact ⟨[.int (i : Nat), x1], .cons ⟨tk, rfl⟩ (.cons r1 .nil), by show 2 ≤ sizeLine; decide, fun T hT => ⟨T, x1, rfl, hT, rfl, fun l hl => by rw [skV_inj inv hl c1]; exact q1⟩⟩
def iE (K : PySem.W.Frag) (ta : TA) : TI := fun σ H R => ta σ H fun vs H1 => ∃ k xs, vs = [skVal k] ∧ skV K H1 k xs ∧ R (Je K k) H1
theorem pi_e {X : Cx} {e : Expr} {ta : TA} {p pos tpos : Pos} {elts : List Expr} {kk : Nat} (hg : Gl X "enumerate") (hm : X.mg "enumerate" = none) (ha : PA X [e] ta) (hs : starEach [e] X.env = [(false, eval e X.env)]) :
    PI X (.Tuple elts kk tpos) (.Call (.Name "enumerate" p) [e] [] pos) (iE X.K ta) := by
  refine ⟨fun pins s σ H R I h => ?_⟩
  refine Call_ (ld_blt I hg hm boot_enumerate (PyProof.Rows.callWith_type1 (thn (ha.run pos pins s σ H _ I h) fun us s1 ⟨vs, H1, I1, r1, q1⟩ => ?_) hs rfl))
  obtain ⟨k, xs, ex, hq, q⟩ := q1
  subst ex
  cases r1 with
  | cons r rr =>
    cases rr
    obtain ⟨o1, HH1, B1, b1, l1, t1⟩ := sk_begins I1 hq (by cases k <;> rfl) r
    refine enum_begins1 B1 b1 fun h' he hit hk => wpAny_pyIter_enum he ?_
    have I2 : Inv X pins σ H1 { s1 with heap := h' } := I1.kept (t' := s1.toks) hk
    refine ⟨s1.heap.objs.size + 1, [s1.heap.objs.size + 1, s1.heap.objs.size], _, _, H1, rfl, I2, turn_e (Nat.succ_ne_self _) (notIn_new (i := 0) (j := 1) l1 (by omega)) (fun a ha e => ?_), ⟨⟨.none, he⟩, t1 _ _ hit⟩, fun b hb => ?_, q⟩
    · have hlt : (a : Nat) < s1.heap.objs.size := l1 a ha
      rw [e] at hlt
      exact absurd hlt (Nat.lt_irrefl _)
    have e' : b = s1.heap.objs.size + 1 ∨ b = s1.heap.objs.size := by simpa using hb
    have hle : s1.heap.objs.size ≤ b := by
      rcases e' with z | z
      · rw [z]; exact Nat.le_add_right _ _
      · rw [z]; exact Nat.le_refl _
    exact I1.fpOk hle (I1.hok.fresh hle)

section
variable {tb : Tab} {n : Nat} {c : Cfg} {N : List Str} {sc : Scope} {X : Cx} {W : WX}
/-- the source stands as long as nobody writes it -/
def KeepV (K : PySem.W.Frag) (H : Hp) (C : Addr → Prop) (k : Sk) (xs : List V) : Prop := ∀ (C' : Addr → Prop) (H' : Hp), (∀ a u, Rd H a u → ¬ C a → Rd H' a u ∧ ¬ C' a) → skV K H' k xs
theorem KeepV.step {K : PySem.W.Frag} {H H' : Hp} {C C' : Addr → Prop} {k : Sk} {xs : List V} (h : KeepV K H C k xs) (hs : ∀ a u, Rd H a u → ¬ C a → Rd H' a u ∧ ¬ C' a) : KeepV K H' C' k xs := fun C2 H2 hs2 => h C2 H2 fun a u r n => hs2 a u (hs a u r n).1 (hs a u r n).2
/-- data that are walked -/
theorem sk_of {K : PySem.W.Frag} {C : Addr → Prop} {H : Hp} {v : V} {d : D} {ds : List D} (r : Rp K H C v d) (h : items d = some ds) : ∃ k xs, v = skVal k ∧ skV K H k xs ∧ RpAll K H C xs ds ∧ KeepV K H C k xs := by
  cases r with
  | non => cases h
  | bl => cases h
  | int => cases h
  | str x hl =>
    obtain rfl := Option.some.inj (show some (signs x) = some ds from h)
    refine ⟨.txt x, signV x, rfl, rfl, ?_, fun _ _ _ => rfl⟩
    unfold signV signs
    generalize x.cps.toList = l
    induction l with
    | nil => exact .nil
    | cons c l ih => exact .cons (.str _ (by show 1 ≤ sizeLine; decide)) ih
  | @lst a xs _ s r =>
    obtain rfl := Option.some.inj h
    exact ⟨.lst a, xs, rfl, s.sq, r, fun _ _ hs => s.imp (fun q => (hs _ _ q.1 q.2).1) id⟩
  | @tup a xs _ s r =>
    obtain rfl := Option.some.inj h
    exact ⟨.tup a, xs, rfl, s.sq, r, fun _ _ hs => s.imp (fun q => (hs _ _ q.1 q.2).1) id⟩
/-- a pair made by an iterator -/
theorem pair_made {K : PySem.W.Frag} {C : Addr → Prop} {H : Hp} {T : Addr} {x y : V} {d e : D} (hC : ∀ a, C a → H a ≠ none) (hT : H T = none) (r : Rp K H C x d) (r' : Rp K H C y e) :
    (∀ a o, H a = some o → upd H T (.tup [x, y]) a = some o) ∧ Rp K (upd H T (.tup [x, y])) C (.ref T) (.tuple [d, e]) := by
  have g := upd_grow (o := HO.tup [x, y]) hT
  have hs : ∀ a u, Rd H a u → ¬ C a → Rd (upd H T (.tup [x, y])) a u ∧ ¬ C a := fun a u q n => ⟨by
    rcases q with q | ⟨o, q⟩
    · exact .inl (g _ _ q)
    · exact .inr ⟨o, g _ _ q⟩, n⟩
  exact ⟨g, .tup (.inl ⟨.of upd_same, fun z => hC T z hT⟩) (.cons (r.mono hs) (.cons (r'.mono hs) .nil))⟩
theorem snd_zip (G : Good tb n c N sc X W) {e e2 : Expr} {elts : List Expr} {kk : Nat} {tpos p pos : Pos} {a b : L} {Γ} (hg : glB sc "zip" = true) (hs : starB e = false) (hs2 : starB e2 = false) (he : PE X e (tM c W (evalE Γ a) (rP c.K))) (he2 : PE X e2 (tM c W (evalE Γ b) (rP c.K))) :
    PI X (.Tuple elts kk tpos) (.Call (.Name "zip" p) [e, e2] [] pos) (tI c W (evalI Γ (.zip a b))) := by
  refine PI.imp (pi_z (gl_of G hg) (G.blt _ (by decide +kernel)) (pa_cons he (pa_cons he2 pa_nil (starEach_of hs2)) (starEach_of hs)) (starEach_of hs) (by rw [starEach_of hs2]; rfl)) fun σ H R ⟨W0, sl, sr, q⟩ => ?_
  simp only [evalI] at q
  refine ⟨W0, sl, sr, q.bind.mono fun d W1 sl1 H1 st sr1 q v rv => ⟨W1, sl1, sr1, q.bind.mono fun d2 W2 sl2 H2 st2 sr2 q u ru => ?_⟩⟩
  split at q
  · rename_i xs ys h1 h2
    have rv2 := Rp.step st2 (show Rp c.K H1 (un W1 c.C0) v d from rv)
    obtain ⟨k1, vs, rfl, s1, r1, m1⟩ := sk_of rv2 h1
    obtain ⟨k2, us, rfl, s2, r2, m2⟩ := sk_of (show Rp c.K H2 (un W2 c.C0) u d2 from ru) h2
    refine ⟨k1, k2, vs, us, rfl, by rw [G.hK]; exact s1, by rw [G.hK]; exact s2, ?_⟩
    rw [G.hK]
    have hl1 := r1.length
    have hl2 := r2.length
    refine q.now sr2 _ (fun C H => skV c.K H k1 vs ∧ skV c.K H k2 us ∧ RpAll c.K H C vs xs ∧ RpAll c.K H C us ys ∧ KeepV c.K H C k1 vs ∧ KeepV c.K H C k2 us) ?_ ⟨s1, s2, r1, r2, m1, m2⟩
    have zl : (zipD xs ys).length = min vs.length us.length := by unfold zipD; rw [List.length_zipWith, hl1, hl2]
    refine ⟨fun {C H C' H'} hs h => ⟨h.2.2.2.2.1 _ _ hs, h.2.2.2.2.2 _ _ hs, h.2.2.1.mono hs, h.2.2.2.1.mono hs, h.2.2.2.2.1.step hs, h.2.2.2.2.2.step hs⟩, fun {i C H} h hi => ?_, fun {i C H} h hi => ?_, fun {i C H x H' d} h hC hd hy => ?_⟩
    · exact ⟨vs, us, h.1, h.2.1, by omega, by omega⟩
    · exact ⟨vs, us, h.1, h.2.1, by omega, by omega, by omega⟩
    · obtain ⟨T, x1, y1, rfl, hT, rfl, hx, hy⟩ := hy
      have hx := hx _ h.1
      have hy := hy _ h.2.1
      obtain ⟨dx, hdx, rx⟩ := h.2.2.1.getV hx
      obtain ⟨dy, hdy, ry⟩ := h.2.2.2.1.getV hy
      have : d = .tuple [dx, dy] := by
        unfold zipD at hd
        rw [List.getElem?_zipWith, hdx, hdy] at hd
        exact (Option.some.inj hd).symm
      subst this
      exact pair_made hC hT rx ry
  · exact q.elim
theorem snd_enum (G : Good tb n c N sc X W) {e : Expr} {elts : List Expr} {kk : Nat} {tpos p pos : Pos} {a : L} {Γ} (hg : glB sc "enumerate" = true) (hs : starB e = false) (he : PE X e (tM c W (evalE Γ a) (rP c.K))) :
    PI X (.Tuple elts kk tpos) (.Call (.Name "enumerate" p) [e] [] pos) (tI c W (evalI Γ (.enum a))) := by
  refine PI.imp (pi_e (gl_of G hg) (G.blt _ (by decide +kernel)) (pa_cons he pa_nil (starEach_of hs)) (starEach_of hs)) fun σ H R ⟨W0, sl, sr, q⟩ => ?_
  simp only [evalI] at q
  refine ⟨W0, sl, sr, q.bind.mono fun d W1 sl1 H1 st sr1 q v rv => ?_⟩
  obtain ⟨ds, hds, q⟩ := q.of
  obtain ⟨xs, h1, rfl⟩ := Option.map_eq_some_iff.mp hds
  obtain ⟨k1, vs, rfl, s1, r1, m1⟩ := sk_of (show Rp c.K H1 (un W1 c.C0) v d from rv) h1
  refine ⟨k1, vs, rfl, by rw [G.hK]; exact s1, ?_⟩
  rw [G.hK]
  have hl1 := r1.length
  refine q.now sr1 _ (fun C H => skV c.K H k1 vs ∧ RpAll c.K H C vs xs ∧ KeepV c.K H C k1 vs) ?_ ⟨s1, r1, m1⟩
  have zl : (enumD xs).length = vs.length := by unfold enumD; rw [List.length_map, List.length_zipIdx, hl1]
  refine ⟨fun {C H C' H'} hs h => ⟨h.2.2 _ _ hs, h.2.1.mono hs, h.2.2.step hs⟩, fun {i C H} h hi => ?_, fun {i C H} h hi => ?_, fun {i C H x H' d} h hC hd hy => ?_⟩
  · exact ⟨vs, h.1, by omega⟩
  · exact ⟨vs, h.1, by omega⟩
  · obtain ⟨T, x1, rfl, hT, rfl, hx⟩ := hy
    have hx := hx _ h.1
    obtain ⟨dx, hdx, rx⟩ := h.2.1.getV hx
    have : d = .tuple [.int (i : Nat), dx] := by
      unfold enumD at hd
      rw [List.getElem?_map, List.getElem?_zipIdx, hdx] at hd
      simpa using (Option.some.inj hd).symm
    subst this
    exact pair_made hC hT (.int _) rx
end
end Rf
end
section
set_option linter.all false
set_option maxRecDepth 100000
set_option maxHeartbeats 1000000
namespace Rf
open PySem PySem.Spec PyProof.Rows L2

theorem PS.imp {X : Cx} {e : Stmt} {t t' : TS} (h : PS X e t) (f : ∀ D σ H, t' D σ H → t D σ H) : PS X e t' := ⟨fun pins s σ H D I q => h.run pins s σ H D I (f _ _ _ q)⟩
theorem PSs.imp {X : Cx} {e : List Stmt} {t t' : TS} (h : PSs X e t) (f : ∀ D σ H, t' D σ H → t D σ H) : PSs X e t' := ⟨fun pins s σ H D I q => h.run pins s σ H D I (f _ _ _ q)⟩

/-- a statement's end and what is wanted behind it -/
def WS (c : Cfg) (Wx : WX) (D : Ends) (W : Addr → Prop) (H : Hp) (f : F) : Prop := match f with
  | .nx sl => ∀ W' σ' H', Stp W H W' H' → SR c W' sl σ' H' → D.nx σ' H'
  | .brk sl => ∀ W' σ' H', Stp W H W' H' → SR c W' sl σ' H' → D.bk σ' H'
  | .ret d sl => ∀ W' σ' H' v, Stp W H W' H' → SR c W' sl σ' H' → Rp c.K H' (un W' c.C0) v d → D.rt v H'
  | .exc e sl => ∀ W' σ' H', Stp W H W' H' → SR c W' sl σ' H' → Wx (c.cl e) none σ' H'
  | .stuck => False
def tS (c : Cfg) (Wx : WX) (m : Sl → F) : TS := fun D σ H => ∃ W sl, SR c W sl σ H ∧ WS c Wx D W H (m sl)
section
variable {c : Cfg} {Wx : WX} {D : Ends} {W W1 : Addr → Prop} {H H1 : Hp} {f : F} {σ : L2.St} {sl : Sl}
theorem WS.step (s : Stp W H W1 H1) (h : WS c Wx D W H f) : WS c Wx D W1 H1 f := by
  cases f with
  | nx sl => exact fun W' σ' H' st sr => h W' σ' H' (s.trans st) sr
  | brk sl => exact fun W' σ' H' st sr => h W' σ' H' (s.trans st) sr
  | ret d sl => exact fun W' σ' H' v st sr => h W' σ' H' v (s.trans st) sr
  | exc e sl => exact fun W' σ' H' st sr => h W' σ' H' (s.trans st) sr
  | stuck => exact h
/-- an expression's result goes on -/
theorem WS.run {α : Type} {r : R α} {g : α → Sl → F} (h : WS c Wx D W H (r.run g)) : WP c Wx σ W H r fun a W' sl' H' => WS c Wx D W' H' (g a sl') := by
  cases r with
  | ok a sl => exact fun W' H' st sr => WS.step st h
  | exc e sl => exact fun W' H' st sr => h W' σ H' st sr
  | stuck => exact h
theorem WS.now (h : WS c Wx D W H (.nx sl)) (sr : SR c W sl σ H) : D.nx σ H := h W σ H .refl sr
theorem WS.of {o : Option Sl} (h : WS c Wx D W H (F.of o)) : ∃ sl, o = some sl ∧ WS c Wx D W H (.nx sl) := by
  cases o with
  | none => exact h.elim
  | some a => exact ⟨a, rfl, h⟩
/-- a slot takes a mutable object of its own -/
theorem SR.setC (sr : SR c W sl σ H) {a : Addr} {k : Cell} (wa : W a) (nc : ¬ c.C0 a) (ca : CellAt c.K H (un W c.C0) a k) (ns : ∀ (i : Nat) (b : Bool) (k' : Cell), sl[i]? = some (some (.cell b k')) → σ[i]? ≠ some (some (.ref a))) (i : Nat) :
    SR c W (sl.set i (some (.cell true k))) (σ.set i (some (.ref a))) H := by
  have cl : ∀ {j : Nat} {x : Rf.X}, (sl.set i (some (.cell true k)))[j]? = some (some x) → (j = i ∧ x = .cell true k ∧ i < sl.length) ∨ (j ≠ i ∧ sl[j]? = some (some x)) := fun {j x} h => by
    by_cases hj : j = i
    · subst hj
      by_cases hl : j < sl.length
      · rw [List.getElem?_set_self hl] at h
        exact .inl ⟨rfl, (Option.some.inj (Option.some.inj h)).symm, hl⟩
      · rw [List.getElem?_eq_none (by rw [List.length_set]; omega)] at h; cases h
    · rw [List.getElem?_set_ne (Ne.symm hj)] at h
      exact .inr ⟨hj, h⟩
  have sg : ∀ {j : Nat}, j ≠ i → (σ.set i (some (.ref a)))[j]? = σ[j]? := fun {j} h => List.getElem?_set_ne (Ne.symm h)
  have si : i < sl.length → (σ.set i (some (.ref a)))[i]? = some (some (.ref a)) := fun h => List.getElem?_set_self (by rw [← sr.len]; exact h)
  refine ⟨sr.trk, by rw [List.length_set, List.length_set]; exact sr.len, fun j y h => ?_, fun j j' b b' k1 k' u h1 h2 h3 h4 => ?_, fun j k1 u h1 h2 => ?_⟩
  · rcases cl h with ⟨rfl, rfl, hl⟩ | ⟨hj, h⟩
    · exact ⟨_, si hl, a, rfl, wa, ⟨fun _ => nc, fun _ => rfl⟩, ca⟩
    · obtain ⟨u, e, q⟩ := sr.slot j y h
      exact ⟨u, by rw [sg hj]; exact e, q⟩
  · rcases cl h1 with ⟨e1, _, hl⟩ | ⟨n1, g1⟩
    · rcases cl h2 with ⟨e2, _, _⟩ | ⟨n2, g2⟩
      · rw [e1, e2]
      · rw [e1, si hl] at h3
        rw [sg n2] at h4
        cases (Option.some.inj (Option.some.inj h3))
        exact absurd h4 (ns j' b' k' g2)
    · rcases cl h2 with ⟨e2, _, hl⟩ | ⟨n2, g2⟩
      · rw [e2, si hl] at h4
        rw [sg n1] at h3
        cases (Option.some.inj (Option.some.inj h4))
        exact absurd h3 (ns j b k1 g1)
      · rw [sg n1] at h3
        rw [sg n2] at h4
        exact sr.inj j j' b b' k1 k' u g1 g2 h3 h4
  · rcases cl h1 with ⟨_, e, _⟩ | ⟨n1, h1⟩
    · cases e
    · rw [sg n1] at h2
      exact sr.org j k1 u h1 h2
/-- a slot's object is written -/
theorem SR.write (sr : SR c W sl σ H) {i : Nat} {own : Bool} {k k' : Cell} {a : Addr} {o : HO} (h : sl[i]? = some (some (.cell own k))) (hσ : σ[i]? = some (some (.ref a)))
    (ca : (∀ b u, Rd H b u → ¬ un W c.C0 b → Rd (upd H a o) b u ∧ ¬ un W c.C0 b) → CellAt c.K (upd H a o) (un W c.C0) a k') : Stp W H W (upd H a o) ∧ SR c W (sl.set i (some (.cell own k'))) σ (upd H a o) := by
  obtain ⟨v, e, a', rfl, wa, ow, _⟩ := sr.slot i _ h
  rw [hσ] at e
  cases (Option.some.inj (Option.some.inj e))
  have hs : ∀ b u, Rd H b u → ¬ un W c.C0 b → Rd (upd H a o) b u ∧ ¬ un W c.C0 b := fun b u q n => by
    have nd : b ≠ a := fun e => n (.inl (by rw [e]; exact wa))
    refine ⟨?_, n⟩
    rcases q with q | ⟨ob, q⟩
    · exact .inl (by rw [upd_ne nd]; exact q)
    · exact .inr ⟨ob, by rw [upd_ne nd]; exact q⟩
  have hi : i < sl.length := (List.getElem?_eq_some_iff.mp h).1
  have old : ∀ {j : Nat} {x : Rf.X}, (sl.set i (some (.cell own k')))[j]? = some (some x) → (j = i ∧ x = .cell own k') ∨ (j ≠ i ∧ sl[j]? = some (some x)) := fun {j x} e => by
    by_cases hj : j = i
    · subst hj
      rw [List.getElem?_set_self hi] at e
      exact .inl ⟨rfl, (Option.some.inj (Option.some.inj e)).symm⟩
    · rw [List.getElem?_set_ne (Ne.symm hj)] at e
      exact .inr ⟨hj, e⟩
  have was : ∀ {j : Nat} {b : Bool} {k1 : Cell}, (sl.set i (some (.cell own k')))[j]? = some (some (.cell b k1)) → ∃ k2, sl[j]? = some (some (.cell b k2)) := fun {j b k1} e => by
    rcases old e with ⟨ej, ex⟩ | ⟨_, ex⟩
    · cases ex; exact ⟨_, by rw [ej]; exact h⟩
    · exact ⟨_, ex⟩
  refine ⟨⟨fun b ob e nb => ?_, fun _ z => .inl z⟩, fun b hb e => ?_, by rw [List.length_set]; exact sr.len, fun j x e => ?_, fun j j' b b' k1 k2 u h1 h2 h3 h4 => ?_, fun j k1 u h1 h2 => ?_⟩
  · rw [upd_ne fun z => nb (by rw [z]; exact wa)]; exact e
  · by_cases nd : b = a
    · subst nd; rw [upd_same] at e; cases e
    · rw [upd_ne nd] at e; exact sr.trk b hb e
  · rcases old e with ⟨rfl, rfl⟩ | ⟨hj, e9⟩
    · exact ⟨_, hσ, a, rfl, wa, ow, ca hs⟩
    · obtain ⟨v, e1, r⟩ := sr.slot j x e9
      refine ⟨v, e1, ?_⟩
      cases x with
      | d x => exact Rp.mono hs (show Rp c.K H (un W c.C0) v x from r)
      | cell own' k1 =>
        obtain ⟨a2, rfl, wa2, ow2, ca2⟩ := r
        have na : a2 ≠ a := fun z => by
          subst z
          exact hj (sr.inj j i own' own k1 k (.ref a2) e9 h e1 hσ)
        exact ⟨a2, rfl, wa2, ow2, ca2.grow hs fun _ z => by rw [upd_ne na]; exact z⟩
      | pin => exact r
  · obtain ⟨q1, h1⟩ := was h1
    obtain ⟨q2, h2⟩ := was h2
    exact sr.inj j j' b b' q1 q2 u h1 h2 h3 h4
  · obtain ⟨q1, h1⟩ := was h1
    exact sr.org j q1 u h1 h2
/-- what a slot's list is -/
theorem SR.lst (sr : SR c W sl σ H) {i : Nat} {own : Bool} {ds : List Rf.D} (h : sl[i]? = some (some (.cell own (.lst ds)))) : ∃ a xs, σ[i]? = some (some (.ref a)) ∧ H a = some (.lst xs) ∧ RpAll c.K H (un W c.C0) xs ds := by
  obtain ⟨v, e, a, rfl, _, _, xs, ea, ra⟩ := sr.slot i _ h
  exact ⟨a, xs, e, ea, ra⟩
end

section
variable {tb : Tab} {n : Nat} {c : Cfg} {N : List Str} {sc : Scope} {X : Cx} {W : WX} {Γ : Nat → List Rf.X → CR}
/-- a def's body, or a try's within -/
structure GoodS (tb : Tab) (n : Nat) (c : Cfg) (N : List Str) (sc : Scope) (X : Cx) (W : WX) : Prop where
  G : Good tb n c N sc X W
  own : PassesOwn (model X.prog X.w) X.A X.env X.xe
  stk : X.stack = X.env :: X.outer
  frm : X.env.frame = some X.env.locals
  fnT : ∀ x, X.fn x = true
theorem GoodS.store (G : GoodS tb n c N sc X W) : Store N sc X := by
  refine ⟨by rw [G.G.hN]; exact G.G.nd, G.G.hN, G.G.calm, fun x h => ?_⟩
  rw [G.G.hsc]
  rcases locB_of h with k | k
  · exact ⟨.inl k, .inl (G.fnT x)⟩
  · exact ⟨.inr k, .inl (G.fnT x)⟩
theorem sts_nil : PSs X [] (tS c W (evalSs Γ .nil)) := PSs.imp pss_nil fun D σ H ⟨W0, sl, sr, q⟩ => by
  simp only [evalSs] at q
  exact q.now sr
theorem sts_cons {st : Stmt} {rest : List Stmt} {s : S} {r : Ss} (h : PS X st (tS c W (evalS Γ s))) (hr : PSs X rest (tS c W (evalSs Γ r))) : PSs X (st :: rest) (tS c W (evalSs Γ (.cons s r))) := by
  refine PSs.imp (pss_cons h hr) fun D σ H ⟨W0, sl, sr, q⟩ => ⟨W0, sl, sr, ?_⟩
  simp only [evalSs] at q
  cases e : evalS Γ s sl with
  | nx sl1 =>
    rw [e] at q
    exact fun W' σ' H' st sr' => ⟨W', sl1, sr', WS.step st q⟩
  | brk sl1 => rw [e] at q; exact q
  | ret d sl1 => rw [e] at q; exact q
  | exc e' sl1 => rw [e] at q; exact q
  | stuck => rw [e] at q; exact q
theorem evalN_list {l : L} (hth : ∀ sl d sl', evalE Γ l sl = .ok d sl' → ∃ ds, d = .list ds) {sl : Sl} (hd : ∀ kvs, l ≠ .dict kvs) : evalN Γ l sl = (evalE Γ l sl).bind fun d sl => R.of (thaw d) sl := by
  unfold evalN
  split
  · exact absurd rfl (hd _)
  · rfl
theorem tN_of {e : Expr} {l : L} {σ : L2.St} {H : Hp} {Q : VK} (hd : ∀ kvs, l ≠ .dict kvs) (hth : ∀ sl d sl', evalE Γ l sl = .ok d sl' → ∃ ds, d = .list ds) (h : tM c W (evalE Γ l) (rP c.K) σ H Q) : tN c W (evalN Γ l) σ H Q := by
  obtain ⟨W0, sl, sr, q⟩ := h
  refine ⟨W0, sl, sr, ?_⟩
  rw [evalN_list hth hd]
  cases hm : evalE Γ l sl with
  | stuck => rw [hm] at q; exact q
  | exc e sl' => rw [hm] at q; exact q
  | ok d sl' =>
    rw [hm] at q
    obtain ⟨ds, rfl⟩ := hth sl d sl' hm
    intro W' H' st sr' a wa nc ca ns
    obtain ⟨xs, ea, ra⟩ := ca
    refine q (fun b => W' b ∧ b ≠ a) H' ⟨fun b o e nb => st.keep b o e nb, fun b hb => st.free b hb.1⟩ (sr'.less (fun b hb => hb.1) fun i b k' a' e1 e2 => ⟨?_, fun z => ?_⟩) (.ref a) ?_
    · obtain ⟨v, e3, a2, ea2, wa2, _⟩ := sr'.slot i _ e1
      rw [e2] at e3
      obtain rfl := Option.some.inj (Option.some.inj e3)
      cases ea2
      exact wa2
    · subst z
      exact ns i b k' e1 e2
    · exact .lst (.inl ⟨.of ea, fun z => z.elim (fun z => z.2 rfl) nc⟩) (ra.mono fun _ _ q n => ⟨q, fun z => n (z.imp (·.1) id)⟩)
theorem asg_nm {i : Nat} {l : L} {D : Ends} {σ : L2.St} {H : Hp} (h : tS c W (evalS Γ (.asg (.nm i) l)) D σ H) : tM c W (evalE Γ l) (rP c.K) σ H fun v H1 => gName i v σ H1 D.nx := by
  obtain ⟨W0, sl, sr, q⟩ := h
  simp only [evalS] at q
  exact ⟨W0, sl, sr, (WS.run (σ := σ) q).mono fun d W1 sl1 H1 st sr1 q v rv => WS.now (show WS c W D W1 H1 (.nx (sl1.set i (some (.d d)))) from q) (sr1.setD (show Rp c.K H1 (un W1 c.C0) v d from rv) i)⟩
theorem asg_new {i : Nat} {l : L} {D : Ends} {σ : L2.St} {H : Hp} (h : tS c W (evalS Γ (.asgC i l)) D σ H) : tN c W (evalN Γ l) σ H fun v H1 => gName i v σ H1 D.nx := by
  obtain ⟨W0, sl, sr, q⟩ := h
  simp only [evalS] at q
  refine ⟨W0, sl, sr, (WS.run (σ := σ) q).mono fun k W1 sl1 H1 st sr1 q a wa nc ca ns => ?_⟩
  exact WS.now (show WS c W D W1 H1 (.nx (sl1.set i (some (.cell true k)))) from q) (sr1.setC wa nc ca ns i)
theorem sta_asg (G : GoodS tb n c N sc X W) {e tg : Expr} {l : L} {i : Nat} {pos : Pos} (ht : okNm N sc i tg = true) (he : PE X e (tM c W (evalE Γ l) (rP c.K))) (hs : swapsWith e (some tg) pos.line X.env = pure false) : PS X (.Assign [tg] e pos) (tS c W (evalS Γ (.asg (.nm i) l))) := by
  cases tg <;> first
    | (simp [okNm] at ht; done)
    | skip
  rename_i x p
  obtain ⟨h1, h2⟩ := Bool.and_eq_true_iff.mp (show (N[i]? == some x && locB sc x) = true from ht)
  obtain ⟨l1, l2⟩ := G.store.loc x h2
  exact PS.imp (ps_set G.store.nd (by rw [G.store.hN]; exact beq_iff_eq.mp h1) l1 he hs l2) fun D σ H q => asg_nm q
theorem sta_new (G : GoodS tb n c N sc X W) {e tg : Expr} {l : L} {i : Nat} {pos : Pos} (ht : okNm N sc i tg = true) (he : PE X e (tN c W (evalN Γ l))) (hs : swapsWith e (some tg) pos.line X.env = pure false) : PS X (.Assign [tg] e pos) (tS c W (evalS Γ (.asgC i l))) := by
  cases tg <;> first
    | (simp [okNm] at ht; done)
    | skip
  rename_i x p
  obtain ⟨h1, h2⟩ := Bool.and_eq_true_iff.mp (show (N[i]? == some x && locB sc x) = true from ht)
  obtain ⟨l1, l2⟩ := G.store.loc x h2
  exact PS.imp (ps_set G.store.nd (by rw [G.store.hN]; exact beq_iff_eq.mp h1) l1 he hs l2) fun D σ H q => asg_new q
/-- name = [..], however the block swaps the name -/
theorem sta_comp (G : GoodS tb n c N sc X W) {elt tg iter : Expr} {ifs : List Expr} {scope : Scope} {pos spos py : Pos} {y : Str} {i : Nat} {own : List (Str × Nat)} {m : Sl → R D} {wi : TI} {g : TG} {tt : TT} {te : TE} {f : Sl → F}
    (hy : N[i]? = some y) (hyl : sc.names.lookup y = some .local) (hln : (py.line == pos.line) = true) (hnot : (scope.names.any fun (n, k) => n == y && (k == .local || k == .cell)) = false) (hk : sc.kind = .function)
    (hi : PI X tg iter wi) (ok : BlkOk X.N X.env.scope scope own) (hg : ∀ (s : Shared) (H : Hp) (C : Addr) (cl : List (Str × Addr)) (fp : List Addr), PG (X.blk s H scope (compEnvC scope cl C X.env) fp) tg g)
    (ht : ∀ (s : Shared) (H : Hp) (C : Addr) (cl : List (Str × Addr)) (fp : List Addr), PTs (X.blk s H scope (compEnvC scope cl C X.env) fp) ifs tt) (he : ∀ (s : Shared) (H : Hp) (C : Addr) (cl : List (Str × Addr)) (fp : List Addr), PE (X.blk s H scope (compEnvC scope cl C X.env) fp) elt te)
    (hs : ∀ x, foldedSetIterable iter X.env x = pure x) (himp : ∀ D σ H, tS c W f D σ H → tLc wi g tt te (own.map (·.2)) σ H fun v H1 => gName i v σ H1 D.nx) : PS X (.Assign [.Name y py] (.ListComp elt [⟨tg, iter, ifs, 0⟩] scope pos) spos) (tS c W f) := by
  refine PS.imp (ps_setLc G.G.calm G.store.nd (by rw [G.store.hN]; exact hy) (by rw [G.G.hsc]; exact hyl) (sw_true (by rw [G.G.hsc]; exact hk) (by rw [G.G.hsc]; exact hyl) hln hnot) hi ok hg ht he hs) fun D σ H q => himp D σ H q
/-- several names = a tuple -/
theorem sta_tup (G : GoodS tb n c N sc X W) {e tg : Expr} {l : L} {t : T} {pos : Pos} (ht : okT N sc t tg = true) (he : PE X e (tM c W (evalE Γ l) (rP c.K))) (hs : swapsWithSole [tg] e pos.line X.env = pure false) (hw : swappedStores [tg] e X.env = pure none) (h1 : starB tg = false) : PS X (.Assign [tg] e pos) (tS c W (evalS Γ (.asg t l))) := by
  have pg := snd_tgt G.store ht
  rw [G.G.hK] at pg
  refine PS.imp (ps_asg he pg hs hw (by rw [each_cons h1]; rfl)) fun D σ H ⟨W0, sl, sr, q⟩ => ?_
  simp only [evalS] at q
  refine ⟨W0, sl, sr, (WS.run (σ := σ) q).mono fun d W1 sl1 H1 st sr1 q v rv => ?_⟩
  obtain ⟨sl2, h2, q⟩ := q.of
  exact gT_of sr1 (show Rp c.K H1 (un W1 c.C0) v d from rv) h2 fun vs sr2 => q.now sr2
theorem sta_expr {e : Expr} {l : L} {pos : Pos} (he : PE X e (tM c W (evalE Γ l) (rP c.K))) (hs : swapsWith e none pos.line X.env = pure false) : PS X (.Expr e pos) (tS c W (evalS Γ (.expr l))) := by
  refine PS.imp (ps_expr he hs) fun D σ H ⟨W0, sl, sr, q⟩ => ?_
  simp only [evalS] at q
  exact ⟨W0, sl, sr, (WS.run (σ := σ) q).mono fun d W1 sl1 H1 st sr1 q v rv => q.now sr1⟩
theorem sta_ret {e : Expr} {l : L} {pos : Pos} (he : PE X e (tM c W (evalE Γ l) (rP c.K))) : PS X (.Return (some e) pos) (tS c W (evalS Γ (.ret l))) := by
  refine PS.imp (ps_ret he) fun D σ H ⟨W0, sl, sr, q⟩ => ?_
  simp only [evalS] at q
  exact ⟨W0, sl, sr, (WS.run (σ := σ) q).mono fun d W1 sl1 H1 st sr1 q v rv => q W1 σ H1 v .refl sr1 rv⟩
theorem sta_retN {pos : Pos} : PS X (.Return none pos) (tS c W (evalS Γ .retN)) := PS.imp ps_retN fun D σ H ⟨W0, sl, sr, q⟩ => by
  simp only [evalS] at q
  exact q W0 σ H .non .refl sr .non
theorem sta_pass {pos : Pos} : PS X (.Pass pos) (tS c W (evalS Γ .pass)) := PS.imp ps_pass fun D σ H ⟨W0, sl, sr, q⟩ => by
  simp only [evalS] at q
  exact q.now sr
theorem sta_brk {pos : Pos} : PS X (.Break pos) (tS c W (evalS Γ .brk)) := PS.imp ps_break fun D σ H ⟨W0, sl, sr, q⟩ => by
  simp only [evalS] at q
  exact q W0 σ H .refl sr
theorem sta_ite {e : Expr} {l : L} {p q : List Stmt} {a b : Ss} {pos : Pos} (he : PT X e (tMb c W (evalT Γ l))) (ha : PSs X p (tS c W (evalSs Γ a))) (hb : PSs X q (tS c W (evalSs Γ b))) : PS X (.If e p q pos) (tS c W (evalS Γ (.ite l a b))) := by
  refine PS.imp (ps_if he ha hb) fun D σ H ⟨W0, sl, sr, q⟩ => ⟨W0, sl, sr, ?_⟩
  unfold evalT
  simp only [evalS] at q
  cases e : evalE Γ l sl with
  | ok d sl1 =>
    rw [e] at q
    intro W1 H1 st sr1
    have q : WS c W D W0 H (if truth d = true then evalSs Γ a sl1 else evalSs Γ b sl1) := q
    have sr1 : SR c W1 sl1 σ H1 := sr1
    by_cases ht : truth d = true
    · rw [if_pos ht] at q
      rw [ht]
      exact (if_pos rfl).mpr ⟨W1, sl1, sr1, WS.step st q⟩
    · rw [if_neg ht] at q
      rw [Bool.not_eq_true] at ht
      rw [ht]
      exact (if_neg Bool.false_ne_true).mpr ⟨W1, sl1, sr1, WS.step st q⟩
  | exc e' sl1 => rw [e] at q; exact fun W1 H1 st sr1 => q W1 σ H1 st sr1
  | stuck => rw [e] at q; exact q
theorem sta_for (G : GoodS tb n c N sc X W) {tg iter : Expr} {p : List Stmt} {t : T} {it : I} {body : Ss} {pos : Pos} (ht : okT N sc t tg = true) (hi : PI X tg iter (tI c W (evalI Γ it))) (hb : PSs X p (tS c W (evalSs Γ body))) (hs : ∀ x, foldedSetIterable iter X.env x = pure x) :
    PS X (.For tg iter p [] pos) (tS c W (evalS Γ (.for_ t it body))) := by
  have pg := snd_tgt G.store ht
  rw [G.G.hK] at pg
  refine PS.imp (ps_for G.own G.G.calm hi pg hb hs) fun D σ H ⟨W0, sl, sr, q⟩ => ?_
  simp only [evalS] at q
  refine ⟨W0, sl, sr, (WS.run (σ := σ) q).mono fun ds W1 sl1 H1 st1 sr1 q J src S hsrc => ?_⟩
  generalize hbd : (fun x sl => match assignT t x sl with | some sl => evalSs Γ body sl | none => .stuck) = bd at q
  refine ⟨fun i m σ H => ∃ W2 sl2, m = ds.length - i ∧ i ≤ ds.length ∧ Stp W1 H1 W2 H ∧ SR c W2 sl2 σ H ∧ src (un W2 c.C0) H ∧ WS c W D W2 H (forLoop bd (ds.drop i) sl2), ⟨ds.length, W1, sl1, by simp, Nat.zero_le _, .refl, sr1, hsrc, q⟩, ?_⟩
  rintro i m σ2 H2 ⟨W2, sl2, rfl, hi, st, sr2, hsr, q⟩
  by_cases hlt : i < ds.length
  · obtain ⟨d, hd⟩ : ∃ d, ds[i]? = some d := ⟨ds[i], List.getElem?_eq_getElem hlt⟩
    have hdrop : ds.drop i = d :: ds.drop (i + 1) := by
      obtain ⟨h1, h2⟩ := List.getElem?_eq_some_iff.mp hd
      rw [← h2]; exact List.drop_eq_getElem_cons h1
    rw [hdrop] at q
    refine .inr ⟨S.go hsr hlt, fun σ' H' => ∃ W2' sl2', Stp W1 H1 W2' H' ∧ SR c W2' sl2' σ' H' ∧ src (un W2' c.C0) H' ∧ WS c W D W2' H' (forLoop bd (ds.drop (i + 1)) sl2'), fun σ' H' ⟨W2', sl2', h1, h2, h3, h4⟩ => ⟨ds.length - (i + 1), by omega, W2', sl2', rfl, hlt, h1, h2, h3, h4⟩, fun x H3 hy => ?_⟩
    obtain ⟨g, rx⟩ := S.yld hsr sr2.trk hd hy
    have st3 : Stp W2 H2 W2 H3 := .grow g
    have sr3 := sr2.grow g
    unfold forLoop at q
    cases hA : assignT t d sl2 with
    | none =>
      rw [← hbd] at q
      dsimp only at q
      rw [hA] at q
      exact q.elim
    | some slA =>
      have hq : bd d sl2 = evalSs Γ body slA := by rw [← hbd]; dsimp only; rw [hA]
      rw [hq] at q
      refine gT_of sr3 rx hA fun vs sr4 => ⟨W2, slA, sr4, ?_⟩
      have src' : ∀ {W' H'}, Stp W2 H3 W' H' → src (un W' c.C0) H' := fun st4 => S.step (fun a u q n => Rd.keep (st3.trans st4) q n) hsr
      cases e : evalSs Γ body slA with
      | nx slB =>
        rw [e] at q
        exact fun W' σ' H' st4 sr5 => ⟨W', slB, st.trans (st3.trans st4), sr5, src' st4, WS.step (st3.trans st4) q⟩
      | brk slB =>
        rw [e] at q
        exact fun W' σ' H' st4 sr5 => q W' σ' H' (st3.trans st4) sr5
      | ret d' slB =>
        rw [e] at q
        exact fun W' σ' H' v st4 sr5 => q W' σ' H' v (st3.trans st4) sr5
      | exc e' slB =>
        rw [e] at q
        exact fun W' σ' H' st4 sr5 => q W' σ' H' (st3.trans st4) sr5
      | stuck => rw [e] at q; exact q
  · have e : i = ds.length := by omega
    subst e
    rw [List.drop_length] at q
    exact .inl ⟨S.stop hsr rfl, q.now sr2⟩
theorem sta_while (G : GoodS tb n c N sc X W) {e : Expr} {p : List Stmt} {l : L} {body : Ss} {pos : Pos} (he : PT X e (tMb c W (evalT Γ l))) (hb : PSs X p (tS c W (evalSs Γ body))) : PS X (.While e p [] pos) (tS c W (evalS Γ (.while_ l body))) := by
  refine PS.imp (ps_while G.own he hb) fun D σ H ⟨W0, sl, sr, q⟩ => ?_
  simp only [evalS] at q
  refine ⟨fun m σ H => ∃ W2 sl2, SR c W2 sl2 σ H ∧ WS c W D W2 H (whileLoop (fun sl => (evalE Γ l sl).bind fun x sl => .ok (truth x) sl) (evalSs Γ body) m sl2), ⟨fuel, W0, sl, sr, q⟩, ?_⟩
  rintro m σ2 H2 ⟨W2, sl2, sr2, q⟩
  cases m with
  | zero => exact q.elim
  | succ m =>
    unfold whileLoop at q
    refine ⟨W2, sl2, sr2, (WS.run (σ := σ2) q).mono fun b W3 sl3 H3 st3 sr3 q => ?_⟩
    cases b with
    | false => exact (if_neg Bool.false_ne_true).mpr (q.now sr3)
    | true =>
      refine (if_pos rfl).mpr ⟨fun σ' H' => ∃ W2 sl2, SR c W2 sl2 σ' H' ∧ WS c W D W2 H' (whileLoop (fun sl => (evalE Γ l sl).bind fun x sl => .ok (truth x) sl) (evalSs Γ body) m sl2), fun σ' H' h => ⟨m, Nat.lt_succ_self m, h⟩, W3, sl3, sr3, ?_⟩
      have q : WS c W D W3 H3 (match evalSs Γ body sl3 with | .nx sl' => whileLoop (fun sl => (evalE Γ l sl).bind fun x sl => .ok (truth x) sl) (evalSs Γ body) m sl' | .brk sl' => .nx sl' | f => f) := q
      cases e : evalSs Γ body sl3 with
      | nx slB =>
        rw [e] at q
        exact fun W' σ' H' st4 sr5 => ⟨W', slB, sr5, WS.step st4 q⟩
      | brk slB =>
        rw [e] at q
        exact fun W' σ' H' st4 sr5 => q W' σ' H' st4 sr5
      | ret d' slB => rw [e] at q; exact q
      | exc e' slB => rw [e] at q; exact q
      | stuck => rw [e] at q; exact q
end
end Rf
end
section
set_option linter.all false
set_option maxRecDepth 100000
set_option maxHeartbeats 1000000
namespace Rf
open PySem PySem.Spec PyProof.Rows L2
section
variable {tb : Tab} {n : Nat} {c : Cfg} {N : List Str} {sc : Scope} {X : Cx} {W : WX} {Γ : Nat → List Rf.X → CR}
/-- the positions of o.m(..) -/
def linesB (apos cpos : Pos) : Bool := apos.endLine == cpos.line
theorem few1 {e : Expr} {env : Env} {pos : Pos} (h : starB e = false) : ((backTo pos (starEach [e] env)).all (fun x => !x.1) && (backToKw pos (keywordEach [] env)).all (fun x => x.1.isSome)
      && decide ([e].length + ([] : List Keyword).length + (if ([] : List Keyword).isEmpty then 0 else 1) < 30)) = true := by
  rw [starEach_of h]
  rfl
theorem few2 {e e2 : Expr} {env : Env} {pos : Pos} (h : starB e = false) (h2 : starB e2 = false) : ((backTo pos (starEach [e, e2] env)).all (fun x => !x.1) && (backToKw pos (keywordEach [] env)).all (fun x => x.1.isSome)
      && decide ([e, e2].length + ([] : List Keyword).length + (if ([] : List Keyword).isEmpty then 0 else 1) < 30)) = true := by
  rw [starEach_of h, starEach_of h2]
  rfl
theorem type_pop : typeOf (.builtin "list.pop") = pure (.type "method_descriptor") := PySem.F.type_list_pop
theorem isLst_of {sl : Sl} {i : Nat} (h : isLst sl i = true) : ∃ b ds, sl[i]? = some (some (.cell b (.lst ds))) := by
  unfold isLst at h
  split at h
  · exact ⟨_, _, by assumption⟩
  · cases h
theorem upd_of {sl sl' : Sl} {i : Nat} {f : Cell → Option Cell} (h : updCell sl i f = some sl') : ∃ b k k', sl[i]? = some (some (.cell b k)) ∧ f k = some k' ∧ sl' = sl.set i (some (.cell b k')) := by
  unfold updCell at h
  split at h
  · rename_i own k e
    obtain ⟨k', h1, rfl⟩ := Option.map_eq_some_iff.mp h
    exact ⟨own, k, k', e, h1, rfl⟩
  · cases h
theorem sta_app (G : GoodS tb n c N sc X W) {x : Str} {e : Expr} {i : Nat} {l : L} {p apos cpos pos : Pos} (hn : nameB N sc i x = true) (hl : linesB apos cpos = true) (hs : starB e = false) (he : PE X e (tM c W (evalE Γ l) (rP c.K))) :
    PS X (.Expr (.Call (.Attribute (.Name x p) "append" apos) [e] [] cpos) pos) (tS c W (evalS Γ (.app i l))) := by
  refine PS.imp (ps_expr (pe_bm (X := X) (name := "append") (T := "list") PySem.F.plainAttrs_list PySem.F.slot_list_append PySem.F.type_list_append mt_append (pe_name G.G hn) (pa_cons he pa_nil (starEach_of hs)) (by rfl) (few1 hs) hl (starEach_of hs) (by rfl)) (by rfl)) fun D σ H ⟨W0, sl, sr, q⟩ => ?_
  simp only [evalS] at q
  split at q
  · rename_i hi
    obtain ⟨b, ds, hsl⟩ := isLst_of hi
    obtain ⟨a, xs, e1, ea, _⟩ := sr.lst hsl
    refine ⟨_, e1, .inl ⟨rfl, xs, .of ea⟩, W0, sl, sr, (WS.run (σ := σ) q).mono fun d W1 sl1 H1 st sr1 q v rv => ?_⟩
    obtain ⟨sl2, h2, q⟩ := q.of
    obtain ⟨b2, k, k', hk, hf, rfl⟩ := upd_of h2
    unfold cAppend at hf
    split at hf
    · split at hf
      · rename_i ys hlen
        obtain rfl := Option.some.inj hf
        obtain ⟨a2, zs, e2, ea2, ra⟩ := sr1.lst hk
        cases (Option.some.inj (Option.some.inj (e1.symm.trans e2)))
        refine ⟨a, zs, v, rfl, rfl, ea2, by rw [ra.length]; exact hlen, ?_⟩
        obtain ⟨st2, sr2⟩ := sr1.write (o := .lst (zs ++ [v])) (k' := .lst (ys ++ [d])) hk e2 fun hs => ⟨_, upd_same, (ra.append (.cons rv .nil)).mono hs⟩
        exact q W1 σ _ st2 sr2
      · cases hf
    · cases hf
  · exact q.elim
theorem sta_ins (G : GoodS tb n c N sc X W) {x : Str} {e e2 : Expr} {i : Nat} {l l2 : L} {p apos cpos pos : Pos} (hn : nameB N sc i x = true) (hl : linesB apos cpos = true) (hs : starB e = false) (hs2 : starB e2 = false) (he : PE X e (tM c W (evalE Γ l) (rP c.K))) (he2 : PE X e2 (tM c W (evalE Γ l2) (rP c.K))) :
    PS X (.Expr (.Call (.Attribute (.Name x p) "insert" apos) [e, e2] [] cpos) pos) (tS c W (evalS Γ (.ins i l l2))) := by
  refine PS.imp (ps_expr (pe_bm (X := X) (name := "insert") (T := "list") PySem.F.plainAttrs_list PySem.F.slot_list_insert PySem.F.type_list_insert mt_insert (pe_name G.G hn) (pa_cons he (pa_cons he2 pa_nil (starEach_of hs2)) (starEach_of hs)) (by rfl) (few2 hs hs2) hl (starEach_of hs) (by rw [starEach_of hs2]; rfl)) (by rfl)) fun D σ H ⟨W0, sl, sr, q⟩ => ?_
  simp only [evalS] at q
  split at q
  · rename_i hi
    obtain ⟨b, ds, hsl⟩ := isLst_of hi
    obtain ⟨a, xs, e1, ea, _⟩ := sr.lst hsl
    refine ⟨_, e1, .inl ⟨rfl, xs, .of ea⟩, W0, sl, sr, (WS.run (σ := σ) q).mono fun d W1 sl1 H1 st sr1 q v rv => ⟨W1, sl1, sr1, (WS.run (σ := σ) q).mono fun d2 W2 sl2 H2 st2 sr2 q u ru => ?_⟩⟩
    cases d with
    | none => exact q.elim
    | bool _ => exact q.elim
    | str _ => exact q.elim
    | list _ => exact q.elim
    | tuple _ => exact q.elim
    | dict _ => exact q.elim
    | int k =>
      obtain ⟨sl3, h3, q⟩ := WS.of (show WS c W D W2 H2 (F.of (updCell sl2 i (cInsert k d2))) from q)
      obtain ⟨b2, k1, k', hk, hf, rfl⟩ := upd_of h3
      unfold cInsert at hf
      split at hf
      · split at hf
        · rename_i ys hlen
          simp only [Bool.and_eq_true, decide_eq_true_eq] at hlen
          obtain rfl := Option.some.inj hf
          obtain ⟨a2, zs, e2, ea2, ra⟩ := sr2.lst hk
          cases (Option.some.inj (Option.some.inj (e1.symm.trans e2)))
          obtain rfl := (Rt.rp (show Rp c.K H1 (un W1 c.C0) v (.int _) from rv)).int
          refine ⟨a, zs, _, u, rfl, rfl, ea2, by rw [ra.length]; exact hlen.1.1, hlen.1.2, hlen.2, ?_⟩
          obtain ⟨st3, sr3⟩ := sr2.write (o := .lst (zs.take k.toNat ++ [u] ++ zs.drop k.toNat)) (k' := .lst (ys.take k.toNat ++ [d2] ++ ys.drop k.toNat)) hk e2 fun hs => ⟨_, upd_same, (((ra.take _).append (.cons ru .nil)).append (ra.drop _)).mono hs⟩
          exact q W2 σ _ st3 sr3
        · cases hf
      · cases hf
  · exact q.elim
theorem sta_ext (G : GoodS tb n c N sc X W) {x : Str} {e : Expr} {i : Nat} {l : L} {p apos cpos pos : Pos} (hn : nameB N sc i x = true) (hl : linesB apos cpos = true) (hs : starB e = false) (he : PE X e (tN c W (evalN Γ l))) :
    PS X (.Expr (.Call (.Attribute (.Name x p) "extend" apos) [e] [] cpos) pos) (tS c W (evalS Γ (.ext i l))) := by
  refine PS.imp (ps_expr (pe_bm (X := X) (name := "extend") (T := "list") PySem.F.plainAttrs_list PySem.F.slot_list_extend PySem.F.type_list_extend mt_extend (pe_name G.G hn) (pa_cons he pa_nil (starEach_of hs)) (by rfl) (few1 hs) hl (starEach_of hs) (by rfl)) (by rfl)) fun D σ H ⟨W0, sl, sr, q⟩ => ?_
  simp only [evalS] at q
  split at q
  · rename_i hi
    obtain ⟨b, ds, hsl⟩ := isLst_of hi
    obtain ⟨a, xs, e1, ea, _⟩ := sr.lst hsl
    refine ⟨_, e1, .inl ⟨rfl, xs, .of ea⟩, W0, sl, sr, (WS.run (σ := σ) q).mono fun k2 W1 sl1 H1 st sr1 q a2 wa2 nc2 ca2 ns2 => ?_⟩
    split at q
    · rename_i es
      obtain ⟨us, eu, ru⟩ := ca2
      obtain ⟨sl2, h2, q⟩ := q.of
      obtain ⟨b2, k, k', hk, hf, rfl⟩ := upd_of h2
      unfold cExtend at hf
      split at hf
      · split at hf
        · rename_i ys hlen
          obtain rfl := Option.some.inj hf
          obtain ⟨a3, zs, e3, ea3, ra⟩ := sr1.lst hk
          cases (Option.some.inj (Option.some.inj (e1.symm.trans e3)))
          refine ⟨a, a2, zs, us, rfl, rfl, ea3, eu, by rw [ra.length, ru.length]; exact hlen, ?_⟩
          obtain ⟨st2, sr2⟩ := sr1.write (o := .lst (zs ++ us)) (k' := .lst (ys ++ es)) hk e3 fun hs => ⟨_, upd_same, (ra.append ru).mono hs⟩
          exact q W1 σ _ st2 sr2
        · cases hf
      · cases hf
    · exact q.elim
  · exact q.elim
theorem sta_setI (G : GoodS tb n c N sc X W) {x : Str} {e ix : Expr} {i : Nat} {k l : L} {p p2 pos : Pos} (hn : nameB N sc i x = true) (hsl : sliceB ix = false) (hk : PE X ix (tM c W (evalE Γ k) (rP c.K))) (he : PE X e (tM c W (evalE Γ l) (rP c.K))) (hs : swapsWithSole [.Subscript (.Name x p) ix p2] e pos.line X.env = pure false) (hw : swappedStores [.Subscript (.Name x p) ix p2] e X.env = pure none) :
    PS X (.Assign [.Subscript (.Name x p) ix p2] e pos) (tS c W (evalS Γ (.setI i k l))) := by
  have ha : ∀ v, assign (.Subscript (.Name x p) ix p2) X.env v = (do
      let ov ← holding [v] (eval (.Name x p) X.env)
      let iv ← holding [v, ov] (eval ix X.env)
      standAt p2
      holding [v, ov, iv] (setItem ov iv v)
      release [v, ov, iv] []) := by
    intro v
    cases ix <;> first
      | rfl
      | (cases hsl; done)
      | (cases (show true = false from hsl))
  refine PS.imp (ps_asg he (pg_sub (pe_name G.G hn) hk set_list ha) hs hw (by rfl)) fun D σ H ⟨W0, sl, sr, q⟩ => ?_
  simp only [evalS] at q
  refine ⟨W0, sl, sr, (WS.run (σ := σ) q).mono fun d W1 sl1 H1 st sr1 q v rv => ?_⟩
  split at q
  · rename_i hi
    obtain ⟨y, hy⟩ : ∃ y, sl1[i]? = some (some y) := by
      unfold isSet at hi
      split at hi
      · exact ⟨_, by assumption⟩
      · cases hi
    obtain ⟨w, e1, _⟩ := sr1.slot i y hy
    refine ⟨w, e1, W1, sl1, sr1, (WS.run (σ := σ) q).mono fun d2 W2 sl2 H2 st2 sr2 q u ru => ?_⟩
    obtain ⟨sl3, h3, q⟩ := q.of
    obtain ⟨b2, k1, k', hk, hf, rfl⟩ := upd_of h3
    unfold cSet at hf
    split at hf
    · rename_i ys
      split at hf
      · obtain ⟨j, hj, rfl⟩ := Option.map_eq_some_iff.mp hf
        obtain ⟨a2, zs, e2, ea2, ra⟩ := sr2.lst hk
        cases (Option.some.inj (Option.some.inj (e1.symm.trans e2)))
        obtain rfl := (Rt.rp (show Rp c.K H2 (un W2 c.C0) u (.int _) from ru)).int
        refine ⟨a2, zs, _, j, rfl, rfl, ea2, by rw [ra.length]; exact hj, ?_⟩
        have rv2 := Rp.step st2 (show Rp c.K H1 (un W1 c.C0) v d from rv)
        obtain ⟨st3, sr3⟩ := sr2.write (o := .lst (zs.set j v)) (k' := .lst (ys.set j d)) hk e2 fun hs => ⟨_, upd_same, (RpAll.set rv2 j ra).mono hs⟩
        exact q W2 σ _ st3 sr3
      · cases hf
    · cases hf
  · exact q.elim
theorem SR.dk {W0 : Addr → Prop} {sl : Sl} {σ : L2.St} {H : Hp} (sr : SR c W0 sl σ H) {i : Nat} {own : Bool} {ds : List (DK × D)} (h : sl[i]? = some (some (.cell own (.dK ds)))) : ∃ a vs, σ[i]? = some (some (.ref a)) ∧ H a = some (.dK vs) ∧ RpKV c.K H (un W0 c.C0) vs ds := by
  obtain ⟨v, e, a, rfl, _, _, xs, ea, ra⟩ := sr.slot i _ h
  exact ⟨a, xs, e, ea, ra⟩
theorem sta_setD (G : GoodS tb n c N sc X W) {x : Str} {e ix : Expr} {i : Nat} {k l : L} {p p2 pos : Pos} (hn : nameB N sc i x = true) (hk : PE X ix (tM c W (evalE Γ k) (rP c.K))) (he : PE X e (tM c W (evalE Γ l) (rP c.K))) (hs : swapsWith e (some (.Subscript (.Name x p) ix p2)) pos.line X.env = pure false) :
    PS X (.Assign [.Subscript (.Name x p) ix p2] e pos) (tS c W (evalS Γ (.setD i k l))) := by
  have hu := units_of G.G.room
  refine PS.imp (ps_dput (by omega) (pe_name G.G hn) hk he hs) fun D σ H ⟨W0, sl, sr, q⟩ => ?_
  simp only [evalS] at q
  refine ⟨W0, sl, sr, (WS.run (σ := σ) q).mono fun d W1 sl1 H1 st sr1 q v rv => ?_⟩
  split at q
  · rename_i hi
    obtain ⟨y, hy⟩ : ∃ y, sl1[i]? = some (some y) := by
      unfold isSet at hi
      split at hi
      · exact ⟨_, by assumption⟩
      · cases hi
    obtain ⟨w, e1, _⟩ := sr1.slot i y hy
    refine ⟨w, e1, W1, sl1, sr1, (WS.run (σ := σ) q).mono fun d2 W2 sl2 H2 st2 sr2 q u ru => ?_⟩
    obtain ⟨sl3, h3, q⟩ := q.of
    obtain ⟨b2, k1, k', hk, hf, rfl⟩ := upd_of h3
    unfold cPut at hf
    split at hf
    · rename_i ys
      obtain ⟨j, hj, hf⟩ := Option.bind_eq_some_iff.mp hf
      split at hf
      · rename_i hlt
        obtain rfl := Option.some.inj hf
        obtain ⟨a2, zs, e2, ea2, ra⟩ := sr2.dk hk
        cases (Option.some.inj (Option.some.inj (e1.symm.trans e2)))
        obtain rfl := (Rt.rp (show Rp c.K H2 (un W2 c.C0) u d2 from ru)).key hj
        refine ⟨a2, _, rfl, .k ea2 (by rw [ra.length]; exact hlt), ?_⟩
        have rv2 := Rp.step st2 (show Rp c.K H1 (un W1 c.C0) v d from rv)
        obtain ⟨st3, sr3⟩ := sr2.write (o := .dK (putK zs j v)) (k' := .dK (vPut ys j d)) hk e2 fun hs => ⟨_, upd_same, (ra.put j rv2).mono hs⟩
        exact q W2 σ _ st3 sr3
      · cases hf
    · cases hf
  · exact q.elim
theorem sta_aug (G : GoodS tb n c N sc X W) {e tg : Expr} {i : Nat} {l : L} {pos : Pos} (ht : okNm N sc i tg = true) (he : PE X e (tM c W (evalE Γ l) (rP c.K))) : PS X (.AugAssign tg .Add e pos) (tS c W (evalS Γ (.aug i l))) := by
  cases tg <;> first
    | (simp [okNm] at ht; done)
    | skip
  rename_i x p
  obtain ⟨h1, h2⟩ := Bool.and_eq_true_iff.mp (show (N[i]? == some x && locB sc x) = true from ht)
  obtain ⟨l1, l2⟩ := G.store.loc x h2
  refine PS.imp (ps_aug G.store.nd (by rw [G.store.hN]; exact beq_iff_eq.mp h1) l1 he ip_add l2) fun D σ H ⟨W0, sl, sr, q⟩ => ?_
  simp only [evalS] at q
  split at q
  · rename_i d hd
    obtain ⟨v, e1, r⟩ := sr.data hd
    refine ⟨v, e1, W0, sl, sr, (WS.run (σ := σ) q).mono fun d2 W1 sl1 H1 st sr1 q u ru => ?_⟩
    obtain ⟨sl2, h2, q⟩ := q.of
    obtain ⟨z, hz, rfl⟩ := Option.map_eq_some_iff.mp h2
    unfold sAug at hz
    split at hz
    · rename_i a b
      obtain rfl := Option.some.inj hz
      obtain rfl := (Rt.rp r).int
      obtain rfl := (Rt.rp (show Rp c.K H1 (un W1 c.C0) u (.int _) from ru)).int
      exact ⟨_, _, rfl, rfl, WS.now q (sr1.setD (.int _) i)⟩
    · cases hz
  · exact q.elim

/-- the classes of exceptions -/
structure ExcRec (tb : Tab) (c : Cfg) (X : Cx) (e : Nat) (x : Str) : Prop where
  ex : ∃ (C : Addr) (bmB : List Value) (B newId initId : String), X.mg x = some (.ref C) ∧ PySem.W.keepIn X.K (.ref C) = true ∧ ExcBaseFacts B newId initId bmB ∧ PySem.W.excIn X.K C bmB newId = true ∧ Raises X (.ref C) ∧ c.cl e = .ref C
  met : ∀ e' y, tb.ename e' = some y → PySem.W.exmOne X.K (c.cl e') (c.cl e) = some (e' == e)
/-- X() -/
theorem pmk_own0 {X : Cx} {C : Addr} {bmB : List Value} {B newId initId : String} {x : Str} {p pos : Pos} (F : ExcBaseFacts B newId initId bmB) (q : PySem.W.excIn X.K C bmB newId = true) (gC : X.mg x = some (.ref C))
    (kC : PySem.W.keepIn X.K (.ref C) = true) (r : Raises X (.ref C)) (hg : Gl X x) (hdb : (x == ("__debug__" : Str)) = false) :
    PMk X (.Call (.Name x p) [] [] pos) (fun _ H Q => Q (.ref C) none H) := by
  intro pins s σ H Q I h
  refine wpAny_Call_Name_kw (ld_glob I hg gC ?_ hdb)
  refine PySem.W.callWith_K0 I.kIn kC ?_
  show wpAny _ _ (call (.ref C) []) _ _ _
  obtain ⟨bm, N, nm, qn, bs, hdct, sn, sub, ab, col, dd, k0, k1, k2, k3, k5, mN, hC, hN, hni, T⟩ := exc_obj I.kIn q
  refine wpAny_call_exc_subT F T hC hN hni (fun h' e hm => ?_) (by show 0 ≤ sizeLine; decide)
  exact mk_of I hm r h (I.hok.gone hm.new)
theorem sta_raise (G : GoodS tb n c N sc X W) {e : Nat} {x : Str} {p p2 pos : Pos} (he : ExcRec tb c X e x) (hg : glB sc x = true) (hdb : (x == ("__debug__" : Str)) = false) : PS X (.Raise (some (.Call (.Name x p) [] [] p2)) none pos) (tS c W (evalS Γ (.raise e))) := by
  obtain ⟨C, bmB, B, newId, initId, h1, h2, F, h3, h4, h5⟩ := he.ex
  refine PS.imp (ps_raise G.G.calm G.G.tk (pmk_own0 F h3 h1 h2 h4 (gl_of G.G hg) hdb)) fun D σ H ⟨W0, sl, sr, q⟩ => ?_
  simp only [evalS] at q
  have := q W0 σ H .refl sr
  rw [h5] at this
  exact this
/-- which text is which handler -/
def okH (N : List Str) (tb : Tab) (sc : Scope) : Hs → List ExceptHandler → Bool
  | .nil, [] => true
  | .cons e i (.const d) r, .ExceptHandler (some (.Name x _)) none [.Assign [tg] (.Constant k _ _) _] _ :: hs => tb.ename e == some x && glB sc x && !(x == ("__debug__" : Str)) && okNm N sc i tg && constB d k && okH N tb sc r hs
  | _, _ => false
theorem GoodS.suite (G : GoodS tb n c N sc X W) (a : Addr) (pn : List (Addr × Obj)) : ∀ x, locB sc x = true → Loc (X.suite a pn).env.scope x ∧ ((X.suite a pn).fn x = true ∨ (X.suite a pn).env.scope.names.lookup x = some .local) := fun x h => G.store.loc x h
theorem okNm_name {N : List Str} {sc : Scope} {i : Nat} {e : Expr} (h : okNm N sc i e = true) : ∃ x p, e = .Name x p ∧ N[i]? = some x ∧ locB sc x = true := by
  unfold okNm at h
  split at h
  · obtain ⟨h1, h2⟩ := Bool.and_eq_true_iff.mp h
    exact ⟨_, _, rfl, beq_iff_eq.mp h1, h2⟩
  · cases h
theorem okH_inv {e i : Nat} {l : L} {r : Hs} {hds : List ExceptHandler} (h : okH N tb sc (.cons e i l r) hds = true) : ∃ (x : Str) (np : Pos) (tg : Expr) (k : Const) (j : Nat) (p pos pos' : Pos) (hs : List ExceptHandler) (d : D),
    l = .const d ∧ hds = .ExceptHandler (some (.Name x np)) none [.Assign [tg] (.Constant k j p) pos] pos' :: hs ∧ tb.ename e = some x ∧ glB sc x = true ∧ (x == ("__debug__" : Str)) = false ∧ okNm N sc i tg = true ∧ constB d k = true ∧ okH N tb sc r hs = true := by
  unfold okH at h
  split at h
  · rename_i e2
    cases e2
  · rename_i e4
    cases e4
    simp only [Bool.and_eq_true, Bool.not_eq_true'] at h
    obtain ⟨⟨⟨⟨⟨h1, h2⟩, h3⟩, h4⟩, h5⟩, h6⟩ := h
    exact ⟨_, _, _, _, _, _, _, _, _, _, rfl, rfl, beq_iff_eq.mp h1, h2, h3, h4, h5, h6⟩
  · cases h
theorem hds_ok (G : GoodS tb n c N sc X W) (ex : ∀ e x, tb.ename e = some x → ExcRec tb c X e x) : ∀ {hs : Hs} {hds : List ExceptHandler}, okH N tb sc hs hds = true → ∃ l, HdsOk X hds l ∧
    ∀ {e : Nat} {y : Str} {sl : Sl} {D : Ends} {W0 : Addr → Prop} {σ : L2.St} {H : Hp}, tb.ename e = some y → SR c W0 sl σ H → WS c W D W0 H (evalHs Γ hs e sl) → wMany X.K W D l (c.cl e) none σ H
  | .nil, [], _ => ⟨[], .nil, fun {e y sl D W0 σ H} hy sr q => by
      simp only [evalHs] at q
      exact q.elim⟩
  | .nil, _ :: _, h => by simp [okH] at h
  | .cons e' i l r, hds, h => by
    obtain ⟨x, np, tg, k, j, p, pos, pos', hs, d, rfl, rfl, h1, h2, h3, h4, h5, h6⟩ := okH_inv h
    obtain ⟨l2, ih1, ih2⟩ := hds_ok G ex h6
    have E := ex e' x h1
    obtain ⟨C, bmB, B, newId, initId, g1, g2, FB, g3, g4, g5⟩ := E.ex
    obtain ⟨z, pz, rfl, q1, q2⟩ := okNm_name h4
    refine ⟨(c.cl e', fun _ _ _ => tS c Wn (evalS Γ (.asg (.nm i) (.const d)))) :: l2, .cons ⟨gl_of G.G h2, h3, .inl (by rw [g5]; exact g1)⟩ (fun a oe cls dd pn _ _ => ?_) ih1, fun {e y sl D W0 σ H} hy sr q => ?_⟩
    · refine pss_one ?_
      obtain ⟨m1, m2⟩ := G.suite a ((a, oe) :: pn) z q2
      exact PS.imp (ps_set (X := X.suite a ((a, oe) :: pn)) G.store.nd (by show X.N[i]? = _; rw [G.store.hN]; exact q1) m1 (snd_const (c := c) (W := Wn) (Γ := Γ) h5) (by rfl) m2) fun D σ H q => asg_nm q
    · refine ⟨e == e', E.met e y hy, fun hb a ha => ?_, fun hb => ?_⟩
      · obtain rfl := beq_iff_eq.mp hb
        simp only [evalHs, if_pos, evalE, R.run_ok] at q
        refine ⟨W0, sl, sr, ?_⟩
        simp only [evalS, evalE, R.run_ok, assignT, F.of_some]
        exact q
      · have hne : e ≠ e' := fun z => by rw [z] at hb; simp at hb
        simp only [evalHs, if_neg hne] at q
        exact ih2 hy sr q
/-- what is caught is known -/
theorem okH_known : ∀ {hs : Hs} {hds : List ExceptHandler} {e : Nat} {sl : Sl}, okH N tb sc hs hds = true → evalHs Γ hs e sl ≠ .stuck → ∃ y, tb.ename e = some y
  | .nil, _, e, sl, _, h => absurd (by simp only [evalHs]) h
  | .cons e' i l r, hds, e, sl, ok, h => by
    obtain ⟨x, np, tg, k, j, p, pos, pos', hs, d, rfl, rfl, h1, h2, h3, h4, h5, h6⟩ := okH_inv ok
    by_cases he : e = e'
    · exact ⟨x, by rw [he]; exact h1⟩
    · simp only [evalHs, if_neg he] at h
      exact okH_known h6 h
theorem sta_try (G : GoodS tb n c N sc X W) (ex : ∀ e x, tb.ename e = some x → ExcRec tb c X e x) {p : List Stmt} {h₀ : ExceptHandler} {hds : List ExceptHandler} {body : Ss} {hs : Hs} {pos : Pos} (hh : okH N tb sc hs (h₀ :: hds) = true)
    (hb : ∀ (W' : WX) (pn : List (Addr × Obj)) (xe : Value → Shared → Prop), GoodS tb n c N sc (X.tr pn xe) W' → PSs (X.tr pn xe) p (tS c W' (evalSs Γ body))) : PS X (.Try p (h₀ :: hds) [] [] pos) (tS c W (evalS Γ (.try_ body hs))) := by
  obtain ⟨l, hl, hw⟩ := hds_ok (Γ := Γ) G ex hh
  refine PS.imp (ps_try_many G.stk G.frm G.G.tk (tb := fun W' => tS c W' (evalSs Γ body)) (fun W' pn xe tk ps => hb W' pn xe ⟨⟨G.G.hK, G.G.hN, G.G.nd, G.G.hsc, G.G.calm, G.G.room, tk, fun f x h => ⟨(G.G.fn f x h).ex⟩, G.G.blt, fun g x h => ⟨(G.G.glb g x h).ex⟩, fun x h => ⟨(G.G.sgn x h).ex⟩⟩, ps, G.stk, G.frm, G.fnT⟩) hl) fun D σ H ⟨W0, sl, sr, q⟩ => ⟨W0, sl, sr, ?_⟩
  simp only [evalS] at q
  cases e : evalSs Γ body sl with
  | nx sl1 => rw [e] at q; exact q
  | brk sl1 => rw [e] at q; exact q
  | ret d sl1 => rw [e] at q; exact q
  | stuck => rw [e] at q; exact q
  | exc e' sl1 =>
    rw [e] at q
    have q : WS c W D W0 H (evalHs Γ hs e' sl1) := q
    obtain ⟨y, hy⟩ := okH_known (Γ := Γ) (e := e') (sl := sl1) hh fun z => by rw [z] at q; exact q.elim
    intro W' σ' H' st sr'
    exact hw hy sr' (WS.step st q)
end
end Rf
end
section
set_option linter.all false
set_option maxRecDepth 100000
set_option maxHeartbeats 1000000
namespace Rf
open PySem PySem.Spec PyProof.Rows L2
section
variable {c : Cfg} {W : Addr → Prop} {sl : Sl} {σ : L2.St} {H : Hp}
/-- objects made, not yet stored -/
def Cfg.pend (c : Cfg) (A : Addr → Prop) : Cfg := { c with C0 := fun a => c.C0 a ∨ A a, org := fun i v => c.org i v ∧ ∀ a, A a → v ≠ .ref a }
theorem SR.pend {A A' : Addr → Prop} {W' : Addr → Prop} (sr : SR (c.pend A) W sl σ H) (hA : ∀ a, A a → A' a) (hw : ∀ a, W' a ↔ W a ∧ ¬ A' a) (hd : ∀ a, A' a → ¬ c.C0 a) (hin : ∀ a, A' a → A a ∨ W a)
    (ns : ∀ a, A' a → ∀ (i : Nat) (b : Bool) (k' : Cell), sl[i]? = some (some (.cell b k')) → σ[i]? ≠ some (some (.ref a))) : SR (c.pend A') W' sl σ H := by
  have hu : ∀ a, un W' (c.pend A').C0 a → un W (c.pend A).C0 a := fun a z => by
    rcases z with z | z | z
    · exact .inl ((hw a).mp z).1
    · exact .inr (.inl z)
    · rcases hin a z with y | y
      · exact .inr (.inr y)
      · exact .inl y
  refine ⟨fun a ha => sr.trk a (hu a ha), sr.len, fun i x e => ?_, sr.inj, fun i k v e1 e2 => ⟨(sr.org i k v e1 e2).1, fun a ha z => ns a ha i _ k e1 (by rw [e2, z])⟩⟩
  obtain ⟨v, e1, r⟩ := sr.slot i x e
  refine ⟨v, e1, ?_⟩
  cases x with
  | d x => exact Rp.mono (fun _ _ q n => ⟨q, fun z => n (hu _ z)⟩) (show Rp c.K H (un W (c.pend A).C0) v x from r)
  | cell own k =>
    obtain ⟨a, ea, wa, ow, ca⟩ := r
    have na : ¬ A' a := fun z => ns a z i own k e (by rw [e1, ea])
    refine ⟨a, ea, (hw a).mpr ⟨wa, na⟩, ?_, ca.grow (fun _ _ q n => ⟨q, fun z => n (hu _ z)⟩) fun _ z => z⟩
    exact ⟨fun z w => w.elim (fun w => ow.mp z (.inl w)) na, fun z => ow.mpr fun w => w.elim (fun w => z (.inl w)) fun w => na (hA a w)⟩
  | pin => exact r
theorem SR.pend0 (sr : SR c W sl σ H) : SR (c.pend fun _ => False) W sl σ H := by
  have hu : ∀ a, un W (c.pend fun _ => False).C0 a → un W c.C0 a := fun a z => z.imp id fun y => y.elim id False.elim
  refine ⟨fun a ha => sr.trk a (hu a ha), sr.len, fun i x e => ?_, sr.inj, fun i k v e1 e2 => ⟨sr.org i k v e1 e2, fun a ha => ha.elim⟩⟩
  obtain ⟨v, e1, r⟩ := sr.slot i x e
  refine ⟨v, e1, ?_⟩
  cases x with
  | d x => exact Rp.mono (fun _ _ q n => ⟨q, fun z => n (hu _ z)⟩) (show Rp c.K H (un W c.C0) v x from r)
  | cell own k =>
    obtain ⟨a, ea, wa, ow, ca⟩ := r
    exact ⟨a, ea, wa, ⟨fun z w => w.elim (ow.mp z) id, fun z => ow.mpr fun w => z (.inl w)⟩, ca.grow (fun _ _ q n => ⟨q, fun z => n (hu _ z)⟩) fun _ z => z⟩
  | pin => exact r
theorem SR.unpend {A : Addr → Prop} (sr : SR (c.pend A) W sl σ H) (hd : ∀ a, A a → ¬ c.C0 a) : SR c (fun a => W a ∨ A a) sl σ H := by
  have hu : ∀ a, un (fun a => W a ∨ A a) c.C0 a → un W (c.pend A).C0 a := fun a z => by
    rcases z with (z | z) | z
    · exact .inl z
    · exact .inr (.inr z)
    · exact .inr (.inl z)
  refine ⟨fun a ha => sr.trk a (hu a ha), sr.len, fun i x e => ?_, sr.inj, fun i k v e1 e2 => (sr.org i k v e1 e2).1⟩
  obtain ⟨v, e1, r⟩ := sr.slot i x e
  refine ⟨v, e1, ?_⟩
  cases x with
  | d x => exact Rp.mono (fun _ _ q n => ⟨q, fun z => n (hu _ z)⟩) (show Rp c.K H (un W (c.pend A).C0) v x from r)
  | cell own k =>
    obtain ⟨a, ea, wa, ow, ca⟩ := r
    refine ⟨a, ea, .inl wa, ?_, ca.grow (fun _ _ q n => ⟨q, fun z => n (hu _ z)⟩) fun _ z => z⟩
    cases own with
    | true => exact ⟨fun _ z => ow.mp rfl (.inl z), fun _ => rfl⟩
    | false =>
      refine ⟨fun z => absurd z (by decide), fun z => ?_⟩
      have og := sr.org i k v e e1
      refine absurd (ow.mpr fun w => ?_) (by decide)
      rcases w with w | w
      · exact z w
      · exact og.2 a w ea
  | pin => exact r
/-- the values: A the objects that stood before -/
inductive PV (K : PySem.W.Frag) (H : Hp) (C A A' : Addr → Prop) : List Bool → List V → List Rf.X → Prop
  | nil : PV K H C A A' [] [] []
  | data {v : V} {d : D} {bs vs ds} : Rp K H C v d → PV K H C A A' bs vs ds → PV K H C A A' (false :: bs) (v :: vs) (.d d :: ds)
  | new {a : Addr} {k : Cell} {bs vs ds} : CellAt K H C a k → A' a → ¬ A a → (∀ (j : Nat), bs[j]? = some true → vs[j]? ≠ some (.ref a)) → PV K H C A A' bs vs ds → PV K H C A A' (true :: bs) (.ref a :: vs) (.cell true k :: ds)
theorem PV.news {K : PySem.W.Frag} {H : Hp} {C A A' : Addr → Prop} {bs : List Bool} {vs : List V} {ds : List Rf.X} (h : PV K H C A A' bs vs ds) : ∀ (j : Nat) (a : Addr), bs[j]? = some true → vs[j]? = some (.ref a) → ¬ A a := by
  induction h with
  | nil => intro j a e; simp at e
  | data r t ih =>
    intro j a e1 e2
    cases j with
    | zero => simp at e1
    | succ j => exact ih j a (by simpa using e1) (by simpa using e2)
  | new h2 h3 h4 h5 t ih =>
    intro j a e1 e2
    cases j with
    | zero =>
      have e2 := Option.some.inj (show some _ = some _ from e2)
      cases e2
      exact h4
    | succ j => exact ih j a (by simpa using e1) (by simpa using e2)
theorem PV.sub {K : PySem.W.Frag} {H : Hp} {C C2 A A' : Addr → Prop} (hu : ∀ a, C2 a → C a) {bs : List Bool} {vs : List V} {ds : List Rf.X} (h : PV K H C A A' bs vs ds) : PV K H C2 A A' bs vs ds := by
  induction h with
  | nil => exact .nil
  | data r t ih => exact .data (r.mono fun _ _ q n => ⟨q, fun z => n (hu _ z)⟩) ih
  | new g2 g3 g4 g5 t ih => exact .new (g2.grow (fun _ _ q n => ⟨q, fun z => n (hu _ z)⟩) fun _ z => z) g3 g4 g5 ih
theorem PV.less {K : PySem.W.Frag} {H : Hp} {C A B A' : Addr → Prop} (hA : ∀ a, B a → A a) {bs : List Bool} {vs : List V} {ds : List Rf.X} (h : PV K H C A A' bs vs ds) : PV K H C B A' bs vs ds := by
  induction h with
  | nil => exact .nil
  | data r t ih => exact .data r ih
  | new h2 h3 h4 h5 t ih => exact .new h2 h3 (fun z => h4 (hA _ z)) h5 ih
end

section
variable {tb : Tab} {n : Nat} {c : Cfg} {N : List Str} {sc : Scope} {X : Cx} {W : WX} {Γ : Nat → List Rf.X → CR}
def tPs (c : Cfg) (Wx : WX) (Γ : Nat → List Rf.X → CR) : List Bool → Ls → TA
  | false :: bs, .cons l r => tCons (fun σ H Q => ∃ A, tM (c.pend A) Wx (evalE Γ l) (rP c.K) σ H Q) (tPs c Wx Γ bs r)
  | true :: bs, .cons l r => tCons (fun σ H Q => ∃ A, tN (c.pend A) Wx (evalN Γ l) σ H Q) (tPs c Wx Γ bs r)
  | _, _ => tNil
def lsLen : Ls → Nat
  | .nil => 0
  | .cons _ r => lsLen r + 1
/-- the values are come by -/
theorem par_run {σ : L2.St} : ∀ {bs : List Bool} {l : Ls} {A W0 : Addr → Prop} {sl : Sl} {H : Hp} {Q : List V → Hp → Prop}, lsLen l = bs.length → SR (c.pend A) W0 sl σ H → (∀ a, A a → ¬ W0 a) → (∀ a, A a → ¬ c.C0 a) →
    (match evalPs Γ bs l sl with
      | .ok ds sl' => ∀ W' H' A' vs, Stp W0 H W' H' → SR (c.pend A') W' sl' σ H' → (∀ a, A a → A' a) → (∀ a, A' a → ¬ W' a) → (∀ a, A' a → A a ∨ H a = none ∨ W0 a) → (∀ a, A' a → ¬ c.C0 a) → PV c.K H' (un W' (c.pend A').C0) A A' bs vs ds → Q vs H'
      | .exc e sl' => ∀ W' H' A', Stp W0 H W' H' → SR (c.pend A') W' sl' σ H' → (∀ a, A a → A' a) → (∀ a, A' a → ¬ W' a) → (∀ a, A' a → A a ∨ H a = none ∨ W0 a) → (∀ a, A' a → ¬ c.C0 a) → W (c.cl e) none σ H'
      | .stuck => False) → tPs c W Γ bs l σ H Q
  | [], .nil, A, W0, sl, H, Q, hl, sr, hA, hC, h => by
    simp only [evalPs] at h
    exact h W0 H A [] .refl sr (fun _ z => z) hA (fun _ z => .inl z) hC .nil
  | [], .cons _ _, _, _, _, _, _, hl, _, _, _, _ => by simp [lsLen] at hl
  | _ :: _, .nil, _, _, _, _, _, hl, _, _, _, _ => by simp [lsLen] at hl
  | b :: bs, .cons l r, A, W0, sl, H, Q, hl, sr, hA, hC, h => by
    have hl' : lsLen r = bs.length := by simpa [lsLen] using hl
    have nA : ∀ {W1 : Addr → Prop} {H1 : Hp}, Stp W0 H W1 H1 → ∀ a, A a → ¬ W1 a := fun {W1 H1} st a ha z => by
      rcases st.free a z with y | y
      · exact hA a ha y
      · exact sr.trk a (.inr (.inr ha)) y
    have back : ∀ {W1 : Addr → Prop} {H1 : Hp}, Stp W0 H W1 H1 → ∀ a, (A a ∨ H1 a = none ∨ W1 a) → A a ∨ H a = none ∨ W0 a := fun {W1 H1} st a z => by
      rcases z with z | z | z
      · exact .inl z
      · by_cases w : W0 a
        · exact .inr (.inr w)
        · refine .inr (.inl ?_)
          cases q : H a with
          | none => rfl
          | some o => rw [st.keep a o q w] at z; cases z
      · rcases st.free a z with y | y
        · exact .inr (.inr y)
        · exact .inr (.inl y)
    cases b with
    | false =>
      simp only [evalPs] at h
      refine ⟨A, W0, sl, sr, ?_⟩
      cases e : evalE Γ l sl with
      | stuck => rw [e] at h; exact h
      | exc e' sl1 =>
        rw [e] at h
        exact fun W1 H1 st sr1 => h W1 H1 A st sr1 (fun _ z => z) (nA st) (fun a z => .inl z) hC
      | ok d sl1 =>
        rw [e] at h
        intro W1 H1 st sr1 v rv
        refine par_run hl' sr1 (nA st) hC ?_
        simp only [R.bind_ok] at h
        cases e2 : evalPs Γ bs r sl1 with
        | stuck => rw [e2] at h; exact h
        | exc e' sl2 =>
          rw [e2] at h
          exact fun W' H' A' st2 sr2 h1 h2 h3 h4 => h W' H' A' (st.trans st2) sr2 h1 h2 (fun a z => back st a (h3 a z)) h4
        | ok ds sl2 =>
          rw [e2] at h
          intro W' H' A' vs st2 sr2 h1 h2 h3 h4 pv
          refine h W' H' A' (v :: vs) (st.trans st2) sr2 h1 h2 (fun a z => back st a (h3 a z)) h4 (.data ?_ pv)
          refine Rp.mono (fun b u q nb => ⟨?_, fun z => ?_⟩) (show Rp c.K H1 (un W1 (c.pend A).C0) v d from rv)
          · have nw : ¬ W1 b := fun z => nb (.inl z)
            rcases q with q | ⟨o, q⟩
            · exact .inl (st2.keep _ _ q nw)
            · exact .inr ⟨o, st2.keep _ _ q nw⟩
          · have nn : H1 b ≠ none := fun z => by rcases q with q | ⟨o, q⟩ <;> (rw [q] at z; cases z)
            rcases z with z | z | z
            · rcases st2.free b z with y | y
              · exact nb (.inl y)
              · exact nn y
            · exact nb (.inr (.inl z))
            · rcases h3 b z with y | y | y
              · exact nb (.inr (.inr y))
              · exact nn y
              · exact nb (.inl y)
    | true =>
      simp only [evalPs] at h
      refine ⟨A, W0, sl, sr, ?_⟩
      cases e : evalN Γ l sl with
      | stuck => rw [e] at h; exact h
      | exc e' sl1 =>
        rw [e] at h
        exact fun W1 H1 st sr1 => h W1 H1 A st sr1 (fun _ z => z) (nA st) (fun a z => .inl z) hC
      | ok d sl1 =>
        rw [e] at h
        intro W1 H1 st sr1 a wa nc ca ns
        have na : ¬ A a := fun z => nc (.inr z)
        have nca : ¬ c.C0 a := fun z => nc (.inl z)
        have hC1 : ∀ b, (A b ∨ b = a) → ¬ c.C0 b := fun b z => z.elim (hC b) fun e => by rw [e]; exact nca
        have sr1' : SR (c.pend fun b => A b ∨ b = a) (fun b => W1 b ∧ ¬ (A b ∨ b = a)) sl1 σ H1 := by
          refine sr1.pend (fun b z => .inl z) (fun b => Iff.rfl) hC1 (fun b z => z.imp id fun e => by rw [e]; exact wa) fun b z i bb k' e1 e2 => ?_
          rcases z with z | z
          · obtain ⟨v, e3, a2, ea2, wa2, _⟩ := sr1.slot i _ e1
            rw [e2] at e3
            obtain rfl := Option.some.inj (Option.some.inj e3)
            cases ea2
            exact nA st b z wa2
          · subst z
            exact ns i bb k' e1 e2
        have st1 : Stp W0 H (fun b => W1 b ∧ ¬ (A b ∨ b = a)) H1 := ⟨st.keep, fun b z => st.free b z.1⟩
        have back1 : ∀ b, ((A b ∨ b = a) ∨ H1 b = none ∨ (W1 b ∧ ¬ (A b ∨ b = a))) → A b ∨ H b = none ∨ W0 b := fun b z => by
          rcases z with (z | z) | z
          · exact .inl z
          · subst z
            rcases st.free b wa with y | y
            · exact .inr (.inr y)
            · exact .inr (.inl y)
          · exact back st1 b (.inr z)
        refine par_run hl' sr1' (fun b z w => w.2 z) hC1 ?_
        simp only [R.bind_ok] at h
        cases e2 : evalPs Γ bs r sl1 with
        | stuck => rw [e2] at h; exact h
        | exc e' sl2 =>
          rw [e2] at h
          exact fun W' H' A' st2 sr2 h1 h2 h3 h4 => h W' H' A' (st1.trans st2) sr2 (fun b z => h1 b (.inl z)) h2 (fun b z => back1 b (h3 b z)) h4
        | ok ds sl2 =>
          rw [e2] at h
          intro W' H' A' vs st2 sr2 h1 h2 h3 h4 pv
          have naw : ¬ (W1 a ∧ ¬ (A a ∨ a = a)) := fun z => z.2 (.inr rfl)
          refine h W' H' A' (.ref a :: vs) (st1.trans st2) sr2 (fun b z => h1 b (.inl z)) h2 (fun b z => back1 b (h3 b z)) h4 (.new (ca.grow (fun b u q nb => ⟨?_, fun z => ?_⟩) fun o ea => st2.keep a o ea naw) (h1 a (.inr rfl)) na (fun j e3 e4 => pv.news j a e3 e4 (.inr rfl)) (pv.less fun b z => .inl z))
          · have nw : ¬ (W1 b ∧ ¬ (A b ∨ b = a)) := fun z => nb (.inl z.1)
            rcases q with q | ⟨o, q⟩
            · exact .inl (st2.keep _ _ q nw)
            · exact .inr ⟨o, st2.keep _ _ q nw⟩
          · have nn : H1 b ≠ none := fun z => by rcases q with q | ⟨o, q⟩ <;> (rw [q] at z; cases z)
            rcases z with z | z | z
            · rcases st2.free b z with y | y
              · exact nb (.inl y.1)
              · exact nn y
            · exact nb (.inr (.inl z))
            · rcases h3 b z with (y | y) | y | y
              · exact nb (.inr (.inr y))
              · subst y; exact nb (.inl wa)
              · exact nn y
              · exact nb (.inl y.1)
/-- the slots take the values -/
theorem par_set {W1 : Addr → Prop} {H1 : Hp} {A' : Addr → Prop} : ∀ {ts : List (Nat × Bool)} {vs : List V} {ds : List Rf.X} {sl sl' : Sl} {σ : L2.St}, SR c W1 sl σ H1 → (∀ a, A' a → W1 a) → (∀ a, A' a → ¬ c.C0 a) → PV c.K H1 (un W1 c.C0) (fun _ => False) A' (ts.map (·.2)) vs ds →
    (∀ (j : Nat) (a : Addr), (ts.map (·.2))[j]? = some true → vs[j]? = some (.ref a) → ∀ (i : Nat) (b : Bool) (k' : Cell), sl[i]? = some (some (.cell b k')) → σ[i]? ≠ some (some (.ref a))) →
    setPar sl ts ds = some sl' → SR c W1 sl' (setV σ (ts.map (·.1)) vs) H1
  | [], _, _, sl, sl', σ, sr, hA, hC, .nil, ns, h => by
    obtain rfl := Option.some.inj (show some sl = some sl' from h)
    exact sr
  | (i, false) :: ts, _, _, sl, sl', σ, sr, hA, hC, .data (v := v) (d := d) (vs := vs) (ds := ds) r t, ns, h => by
    refine par_set (ts := ts) (vs := vs) (ds := ds) (sl := sl.set i (some (.d d))) (σ := σ.set i (some v)) (sr.setD r i) hA hC t (fun j a e1 e2 i' b k' e3 e4 => ?_) h
    by_cases hi : i' = i
    · subst hi
      by_cases hlt : i' < sl.length
      · rw [List.getElem?_set_self hlt] at e3; cases e3
      · rw [List.getElem?_eq_none (by rw [List.length_set]; omega)] at e3; cases e3
    · rw [List.getElem?_set_ne (Ne.symm hi)] at e3 e4
      exact ns (j + 1) a (by simpa using e1) (by simpa using e2) i' b k' e3 e4
  | (i, true) :: ts, _, _, sl, sl', σ, sr, hA, hC, .new (a := a) (k := k) (vs := vs) (ds := ds) h2 h3 h4 h5 t, ns, h => by
    have h : setPar (sl.set i (some (.cell true k))) ts ds = some sl' := h
    refine par_set (ts := ts) (vs := vs) (ds := ds) (σ := σ.set i (some (.ref a))) (sr.setC (hA a h3) (hC a h3) h2 (fun i b k' e1 e2 => ns 0 a rfl rfl i b k' e1 e2) i) hA hC t (fun j a' e1 e2 i' b k' e3 e4 => ?_) h
    by_cases hi : i' = i
    · subst hi
      by_cases hlt : i' < σ.length
      · rw [List.getElem?_set_self hlt] at e4
        cases (Option.some.inj (Option.some.inj e4))
        exact h5 j e1 e2
      · rw [List.getElem?_eq_none (by rw [List.length_set]; omega)] at e4; cases e4
    · rw [List.getElem?_set_ne (Ne.symm hi)] at e3 e4
      exact ns (j + 1) a' (by simpa using e1) (by simpa using e2) i' b k' e3 e4
/-- the whole statement -/
theorem par_all {ts : List (Nat × Bool)} {l : Ls} {D : Ends} {σ : L2.St} {H : Hp} (hl : lsLen l = ts.length) (h : tS c W (evalS Γ (.par ts l)) D σ H) (Q : List V → Hp → Prop) (hQ : ∀ vs H1, vs.length = ts.length → (∀ H2, (∀ a o, H1 a = some o → H2 a = some o) → D.nx (setV σ (ts.map (·.1)) vs) H2) → Q vs H1) : tPs c W Γ (ts.map (·.2)) l σ H Q := by
  obtain ⟨W0, sl, sr, q⟩ := h
  simp only [evalS] at q
  refine par_run (A := fun _ => False) (by rw [List.length_map]; exact hl) sr.pend0 (fun _ z => z.elim) (fun _ z => z.elim) ?_
  cases e : evalPs Γ (ts.map (·.2)) l sl with
  | stuck => rw [e] at q; exact q
  | exc e' sl1 =>
    rw [e] at q
    intro W' H' A' st sr1 _ h2 h3 h4
    refine q (fun a => W' a ∨ A' a) σ H' ⟨st.keep, fun a z => z.elim (st.free a) fun z => ?_⟩ (sr1.unpend h4)
    rcases h3 a z with y | y | y
    · exact y.elim
    · exact .inr y
    · exact .inl y
  | ok ds sl1 =>
    rw [e] at q
    intro W' H' A' vs st sr1 _ h2 h3 h4 pv
    obtain ⟨sl2, hs, q⟩ := WS.of (show WS c W D W0 H (F.of (setPar sl1 ts ds)) from q)
    have sru := sr1.unpend h4
    have hu : ∀ a, un (fun a => W' a ∨ A' a) c.C0 a → un W' (c.pend A').C0 a := fun a z => by
      rcases z with (z | z) | z
      · exact .inl z
      · exact .inr (.inr z)
      · exact .inr (.inl z)
    have pv' : PV c.K H' (un (fun a => W' a ∨ A' a) c.C0) (fun _ => False) A' (ts.map (·.2)) vs ds := pv.sub hu
    have hlen : vs.length = ts.length := by
      have : ∀ {C A A' : Addr → Prop} {bs : List Bool} {vs : List V} {ds : List Rf.X}, PV c.K H' C A A' bs vs ds → vs.length = bs.length := by
        intro C A A' bs vs ds p
        induction p with
        | nil => rfl
        | data r t ih => simp [ih]
        | new _ _ _ _ t ih => simp [ih]
      rw [this pv', List.length_map]
    have srf := par_set sru (fun a z => .inr z) h4 pv' (fun j a e1 e2 i b k' e3 e4 => ?_) hs
    · refine hQ vs H' hlen fun H2 g => ?_
      refine q (fun a => W' a ∨ A' a) _ H2 ⟨fun a o ea na => g a o (st.keep a o ea na), fun a z => z.elim (st.free a) fun z => ?_⟩ (srf.grow g)
      rcases h3 a z with y | y | y
      · exact y.elim
      · exact .inr y
      · exact .inl y
    · obtain ⟨v, e5, a2, ea2, wa2, _⟩ := sr1.slot i _ e3
      rw [e4] at e5
      obtain rfl := Option.some.inj (Option.some.inj e5)
      cases ea2
      have : A' a := by
        have : ∀ {C A A' : Addr → Prop} {bs : List Bool} {vs : List V} {ds : List Rf.X} {j : Nat} {a : Addr}, PV c.K H' C A A' bs vs ds → bs[j]? = some true → vs[j]? = some (.ref a) → A' a := by
          intro C A A' bs vs ds j a p
          induction p generalizing j with
          | nil => intro e; simp at e
          | data r t ih =>
            intro e1 e2
            cases j with
            | zero => simp at e1
            | succ j => exact ih (by simpa using e1) (by simpa using e2)
          | new g2 g3 g4 g5 t ih =>
            intro e1 e2
            cases j with
            | zero =>
              have e2 := Option.some.inj (show some _ = some _ from e2)
              cases e2
              exact g3
            | succ j => exact ih (by simpa using e1) (by simpa using e2)
        exact this pv e1 e2
      exact h2 a this wa2

/-- what swappedStores answers, by the text -/
def swS (ts vs : List Expr) (sc : Scope) : Option (Option (List Str)) :=
  if !(ts.length == 2 || ts.length == 3) || vs.length != ts.length then some none
  else if vs.any starB then some none
  else
    let names := ts.filterMap fun
      | .Name id pos => if sc.names.lookup id == some .local && pos.line == (ts.head?.map (·.pos.line)).getD 0 then some id else none
      | _ => none
    if names.length != ts.length || names.eraseDups.length != names.length then some none
    else if vs.all (foldedForSure 8) then some none
    else if vs.all (constantsAlone 8) then none
    else some (some names)
theorem swS_ok {ts vs : List Expr} {sc : Scope} {env : Env} {k k2 : Nat} {p p2 : Pos} {r : Option (List Str)} (hs : env.scope = sc) (hk : sc.kind = .function) (h : swS ts vs sc = some r) : swappedStores [.Tuple ts k p] (.Tuple vs k2 p2) env = pure r := by
  subst hs
  have hb : env.blockKind = .function := by unfold Env.blockKind; rw [hk]; rfl
  have st : (fun (e : Expr) => match e with | .Starred .. => true | _ => false) = starB := by
    funext e
    cases e <;> rfl
  unfold swS at h
  unfold swappedStores
  dsimp only
  rw [hb]
  split at h
  · rename_i h1
    obtain rfl := Option.some.inj h
    rw [if_pos (by rw [h1]; rfl)]
  · rename_i h1
    rw [if_neg (by simpa using h1)]
    have any_eq : ∀ f : Expr → Bool, (∀ e, f e = starB e) → vs.any f = vs.any starB := fun f hf => by rw [show f = starB from funext hf]
    split at h
    · rename_i h2
      obtain rfl := Option.some.inj h
      refine (if_pos ?_).trans rfl
      exact (any_eq _ fun e => by cases e <;> rfl).trans h2
    · rename_i h2
      refine (if_neg ?_).trans ?_
      · intro h3
        exact h2 ((any_eq _ fun e => by cases e <;> rfl).symm.trans h3)
      dsimp only at h
      generalize hn : List.filterMap _ ts = names at h
      generalize hm : List.filterMap _ ts = names'
      have e : names' = names := by
        rw [← hn, ← hm]
        rfl
      subst e
      clear hn hm
      split at h
      · rename_i h3
        obtain rfl := Option.some.inj h
        rw [if_pos h3]
      · rename_i h3
        rw [if_neg h3]
        split at h
        · rename_i h4
          obtain rfl := Option.some.inj h
          rw [if_pos h4]
        · rename_i h4
          rw [if_neg h4]
          split at h
          · cases h
          · rename_i h5
            obtain rfl := Option.some.inj h
            rw [if_neg h5]

/-- a, b = x, y; a, b, c = x, y, z -/
theorem sta_par2 (G : GoodS tb n c N sc X W) {a b : Expr} {t1 t2 : Expr} {i j : Nat} {b1 b2 : Bool} {l : Ls} {k k2 : Nat} {pt p2 pos : Pos} (hi : okNm N sc i t1 = true) (hj : okNm N sc j t2 = true) (hij : i ≠ j) (hl : lsLen l = 2) (hk : sc.kind = .function) (ha : PA X [a, b] (tPs c W Γ [b1, b2] l))
    (hx : okNm N sc i t1 = true → (match t1 with | .Name x _ => sc.names.lookup x | _ => none) = some .local) (hy : (match t2 with | .Name x _ => sc.names.lookup x | _ => none) = some .local)
    (hw : swS [t1, t2] [a, b] sc = some (some (([t1, t2] : List Expr).filterMap fun e => match e with | .Name x _ => some x | _ => none))) :
    PS X (.Assign [.Tuple [t1, t2] k pt] (.Tuple [a, b] k2 p2) pos) (tS c W (evalS Γ (.par [(i, b1), (j, b2)] l))) := by
  obtain ⟨x, px, rfl, n1, _⟩ := okNm_name hi
  obtain ⟨y, py, rfl, n2, _⟩ := okNm_name hj
  refine PS.imp (ps_par G.G.calm G.store.nd (by rw [G.store.hN]; exact n1) (by rw [G.store.hN]; exact n2) hij (by rw [G.G.hsc]; exact hx hi) (by rw [G.G.hsc]; exact hy) ha (swS_ok G.G.hsc hk hw)) fun D σ H q => ?_
  refine par_all (ts := [(i, b1), (j, b2)]) hl q _ fun vs H1 hlen hn => ?_
  match vs, hlen with
  | [v, w], _ => exact ⟨v, w, rfl, hn H1 fun _ _ e => e⟩
theorem sta_par3 (G : GoodS tb n c N sc X W) {a b d : Expr} {t1 t2 t3 : Expr} {i j m : Nat} {b1 b2 b3 : Bool} {l : Ls} {k k2 : Nat} {pt p2 pos : Pos} (hi : okNm N sc i t1 = true) (hj : okNm N sc j t2 = true) (hm : okNm N sc m t3 = true) (hij : i ≠ j) (him : i ≠ m) (hjm : j ≠ m) (hl : lsLen l = 3) (hk : sc.kind = .function)
    (ha : PA X [a, b, d] (tPs c W Γ [b1, b2, b3] l)) (hx : (match t1 with | .Name x _ => sc.names.lookup x | _ => none) = some .local) (hy : (match t2 with | .Name x _ => sc.names.lookup x | _ => none) = some .local) (hz : (match t3 with | .Name x _ => sc.names.lookup x | _ => none) = some .local)
    (hw : swS [t1, t2, t3] [a, b, d] sc = some (some (([t1, t2, t3] : List Expr).filterMap fun e => match e with | .Name x _ => some x | _ => none))) :
    PS X (.Assign [.Tuple [t1, t2, t3] k pt] (.Tuple [a, b, d] k2 p2) pos) (tS c W (evalS Γ (.par [(i, b1), (j, b2), (m, b3)] l))) := by
  obtain ⟨x, px, rfl, n1, _⟩ := okNm_name hi
  obtain ⟨y, py, rfl, n2, _⟩ := okNm_name hj
  obtain ⟨z, pz, rfl, n3, _⟩ := okNm_name hm
  refine PS.imp (ps_par3 G.G.calm G.store.nd (by rw [G.store.hN]; exact n1) (by rw [G.store.hN]; exact n2) (by rw [G.store.hN]; exact n3) hij him hjm (by rw [G.G.hsc]; exact hx) (by rw [G.G.hsc]; exact hy) (by rw [G.G.hsc]; exact hz) ha (swS_ok G.G.hsc hk hw)) fun D σ H q => ?_
  refine par_all (ts := [(i, b1), (j, b2), (m, b3)]) hl q _ fun vs H1 hlen hn => ?_
  match vs, hlen with
  | [u, v, w], _ => exact ⟨u, v, w, rfl, hn H1 fun _ _ e => e⟩
theorem gNames_go {Q : L2.St → Hp → Prop} {H : Hp} : ∀ {is : List Nat} {vs : List V} {σ : L2.St}, vs.length = is.length → Q (setV σ is vs) H → gNames is vs σ H Q
  | [], [], _, _, q => ⟨rfl, q⟩
  | i :: is, v :: vs, σ, hl, q => ⟨v, vs, rfl, gNames_go (by simpa using hl) q⟩
  | [], _ :: _, _, hl, _ => by simp at hl
  | _ :: _, [], _, hl, _ => by simp at hl
/-- .. by a tuple -/
theorem sta_parT (G : GoodS tb n c N sc X W) {es ts : List Expr} {l : Ls} {tb' : List (Nat × Bool)} {k k2 : Nat} {pt p2 pos : Pos} (ht : okNms N sc (tb'.map (·.1)) ts = true) (hl : lsLen l = tb'.length) (hk : sc.kind = .function) (ha : PA X es (tPs c W Γ (tb'.map (·.2)) l)) (hz : tb'.length ≤ sizeLine)
    (hw : swS ts es sc = some none) : PS X (.Assign [.Tuple ts k pt] (.Tuple es k2 p2) pos) (tS c W (evalS Γ (.par tb' l))) := by
  obtain ⟨q1, q2, q3⟩ := pgs_nms G.store ht
  refine PS.imp (ps_asg (pe_tup ha) (pg_tup G.G.calm q1 q2 q3) (by rfl) (swS_ok G.G.hsc hk hw) (by rfl)) fun D σ H q => ?_
  refine par_all hl q _ fun vs H1 hlen hn => ?_
  refine ⟨by rw [hlen]; exact hz, fun p hp => ⟨p, vs, rfl, .of upd_same, by rw [hlen, List.length_map], ?_⟩⟩
  exact gNames_go (by rw [hlen, List.length_map]) (hn _ (upd_grow hp))
theorem pas_nil : PA X [] (tPs c W Γ [] .nil) := pa_nil
theorem pas_data {e : Expr} {es : List Expr} {l : L} {r : Ls} {bs : List Bool} (hs : starB e = false) (he : ∀ A, PE X e (tM (c.pend A) W (evalE Γ l) (rP c.K))) (hr : PA X es (tPs c W Γ bs r)) : PA X (e :: es) (tPs c W Γ (false :: bs) (.cons l r)) :=
  pa_cons ⟨fun pins s σ H Q I ⟨A, q⟩ => (he A).run pins s σ H Q I q⟩ hr (starEach_of hs)
theorem pas_new {e : Expr} {es : List Expr} {l : L} {r : Ls} {bs : List Bool} (hs : starB e = false) (he : ∀ A, PE X e (tN (c.pend A) W (evalN Γ l))) (hr : PA X es (tPs c W Γ bs r)) : PA X (e :: es) (tPs c W Γ (true :: bs) (.cons l r)) :=
  pa_cons ⟨fun pins s σ H Q I ⟨A, q⟩ => (he A).run pins s σ H Q I q⟩ hr (starEach_of hs)
end
end Rf
end
section
set_option linter.all false
set_option maxRecDepth 100000
set_option maxHeartbeats 1000000
namespace Rf
open PySem PySem.Spec PyProof.Rows L2
section
variable {tb : Tab} {n : Nat} {c : Cfg} {N : List Str} {sc : Scope} {X : Cx} {W : WX} {Γ : Nat → List Rf.X → CR}
theorem op_imp {za zb : Z} {o : O2} (hK : X.K = c.K) {σ : L2.St} {H : Hp} {Q : VK} (h : tM c W (evalE Γ (.op o za zb)) (rP c.K) σ H Q) : tOp (rD2 X (sem2 o)) (tM c W (evalZ Γ za) (rZ c.K)) (tM c W (evalZ Γ zb) (rZ c.K)) σ H Q := by
  obtain ⟨W0, sl, sr, q⟩ := h
  simp only [evalE] at q
  refine ⟨W0, sl, sr, q.bind.mono fun x W1 sl1 H1 st1 sr1 q v rv => ⟨W1, sl1, sr1, q.bind.mono fun y W2 sl2 H2 st2 sr2 q u ru => ?_⟩⟩
  obtain ⟨d, hd, q⟩ := q.of
  obtain ⟨d1, h1, hd⟩ := Option.bind_eq_some_iff.mp (show (zD sl2 x).bind _ = some d from hd)
  obtain ⟨d2, h2, hd⟩ := Option.bind_eq_some_iff.mp hd
  refine ⟨_, d1, d2, d, sr2.trk, ?_, ?_, hd, ?_⟩
  · rw [hK]; exact sr2.zd (rZ.step st2 rv) h1
  · rw [hK]; exact sr2.zd ru h2
  · rw [hK]; exact made_of sr2 q
theorem chain_imp {o p : O2} {a b d : L} (hK : X.K = c.K) {σ : L2.St} {H : Hp} {Q : VK} (h : tM c W (evalE Γ (.chain o p a b d)) (rP c.K) σ H Q) : tChain (rD2 X (sem2 o)) (rD2 X (sem2 p)) (tM c W (evalE Γ a) (rP c.K)) (tM c W (evalE Γ b) (rP c.K)) (tM c W (evalE Γ d) (rP c.K)) σ H Q := by
  obtain ⟨W0, sl, sr, q⟩ := h
  simp only [evalE] at q
  refine ⟨W0, sl, sr, q.bind.mono fun d1 W1 sl1 H1 st1 sr1 q v rv => ⟨W1, sl1, sr1, q.bind.mono fun d2 W2 sl2 H2 st2 sr2 q u ru => ?_⟩⟩
  have rv2 : Rt c.K H2 (un W2 c.C0) v d1 := .rp (Rp.step st2 rv)
  have ru2 : Rp c.K H2 (un W2 c.C0) u d2 := ru
  have mk : ∀ {dz : D} {k : V → Hp → Prop}, sem2 o d1 d2 = some dz → (∀ v' H3, (∀ a o, H2 a = some o → H3 a = some o) → Rp c.K H3 (un W2 c.C0) v' dz → k v' H3) → rD2 X (sem2 o) v u H2 k := fun {dz k} e f =>
    ⟨un W2 c.C0, d1, d2, dz, sr2.trk, by rw [hK]; exact rv2, by rw [hK]; exact .rp ru2, e, by rw [hK]; exact f⟩
  split at q
  · rename_i e
    refine mk e fun v' H3 g r3 => ⟨true, (Rt.rp r3).bl, ?_⟩
    rw [if_pos rfl]
    refine ⟨W2, sl2, sr2.grow g, (WP.step (.grow g) q).bind.mono fun d3 W4 sl4 H4 st4 sr4 q w rw' => ?_⟩
    obtain ⟨dz, hz, q⟩ := q.of
    refine ⟨un W4 c.C0, d2, d3, dz, sr4.trk, by rw [hK]; exact .rp (Rp.step ((Stp.grow g).trans st4) ru2), by rw [hK]; exact .rp rw', hz, by rw [hK]; exact made_of sr4 q⟩
  · rename_i e
    refine mk e fun v' H3 g r3 => ⟨false, (Rt.rp r3).bl, ?_⟩
    rw [if_neg Bool.false_ne_true]
    exact q W2 H3 (.grow g) (sr2.grow g) _ (.bl _)
  · exact q.elim
/-- a test of a term whose values are truths -/
theorem test_bool {l : L} (hb : ∀ sl d sl', evalE Γ l sl = .ok d sl' → ∃ b, d = .bool b) {σ : L2.St} {H : Hp} {Q : Bool → Hp → Prop} (h : tMb c W (evalT Γ l) σ H Q) : tM c W (evalE Γ l) (rP c.K) σ H fun x H1 => ∃ b, x = .bl b ∧ Q b H1 := by
  obtain ⟨W0, sl, sr, q⟩ := h
  refine ⟨W0, sl, sr, ?_⟩
  unfold evalT at q
  cases e : evalE Γ l sl with
  | stuck => rw [e] at q; exact q
  | exc e' sl1 => rw [e] at q; exact q
  | ok d sl1 =>
    rw [e] at q
    obtain ⟨b, rfl⟩ := hb sl d sl1 e
    intro W1 H1 st sr1 v rv
    exact ⟨b, (Rt.rp (show Rp c.K H1 (un W1 c.C0) v (.bool b) from rv)).bl, q W1 H1 st sr1⟩
def cmpB : O2 → Bool
  | .add => false
  | .sub => false
  | .mul => false
  | .fdiv => false
  | .mod => false
  | _ => true
theorem sem2_bool {o : O2} (h : cmpB o = true) {a b d : D} (e : sem2 o a b = some d) : ∃ t, d = .bool t := by
  cases o with
  | add => cases h
  | sub => cases h
  | mul => cases h
  | fdiv => cases h
  | mod => cases h
  | is_ =>
    dsimp only [sem2] at e
    split at e
    · exact ⟨_, (Option.some.inj e).symm⟩
    · cases e
  | isnt =>
    dsimp only [sem2] at e
    split at e
    · exact ⟨_, (Option.some.inj e).symm⟩
    · cases e
  | eq => obtain ⟨t, _, h2⟩ := oB_of e; exact ⟨t, h2⟩
  | ne => obtain ⟨t, _, h2⟩ := oB_of e; exact ⟨t, h2⟩
  | lt => obtain ⟨t, _, h2⟩ := oB_of e; exact ⟨t, h2⟩
  | le => obtain ⟨t, _, h2⟩ := oB_of e; exact ⟨t, h2⟩
  | gt => obtain ⟨t, _, h2⟩ := oB_of e; exact ⟨t, h2⟩
  | ge => obtain ⟨t, _, h2⟩ := oB_of e; exact ⟨t, h2⟩
  | in_ => obtain ⟨t, _, h2⟩ := oB_of e; exact ⟨t, h2⟩
  | nin => obtain ⟨t, _, h2⟩ := oB_of e; exact ⟨t, h2⟩
theorem R.bind_ok_iff {α β : Type} {r : R α} {f : α → Sl → R β} {b : β} {sl' : Sl} (h : r.bind f = .ok b sl') : ∃ a sl, r = .ok a sl ∧ f a sl = .ok b sl' := by
  cases r with
  | ok a sl => exact ⟨a, sl, rfl, h⟩
  | exc c sl => cases h
  | stuck => cases h
theorem R.of_ok {α : Type} {o : Option α} {sl sl' : Sl} {a : α} (h : R.of o sl = .ok a sl') : o = some a := by
  cases o with
  | none => cases h
  | some b => cases h; rfl
theorem op_bool {o : O2} (h : cmpB o = true) {za zb : Z} {sl sl' : Sl} {d : D} (e : evalE Γ (.op o za zb) sl = .ok d sl') : ∃ t, d = .bool t := by
  simp only [evalE] at e
  obtain ⟨x, sl1, _, e⟩ := R.bind_ok_iff e
  obtain ⟨y, sl2, _, e⟩ := R.bind_ok_iff e
  have e := R.of_ok e
  obtain ⟨d1, _, e⟩ := Option.bind_eq_some_iff.mp (show (zD sl2 x).bind _ = some d from e)
  obtain ⟨d2, _, e⟩ := Option.bind_eq_some_iff.mp e
  exact sem2_bool h e
theorem chain_bool {o p : O2} (h : cmpB p = true) {a b z : L} {sl sl' : Sl} {d : D} (e : evalE Γ (.chain o p a b z) sl = .ok d sl') : ∃ t, d = .bool t := by
  simp only [evalE] at e
  obtain ⟨x, sl1, _, e⟩ := R.bind_ok_iff e
  obtain ⟨y, sl2, _, e⟩ := R.bind_ok_iff e
  split at e
  · obtain ⟨w, sl3, _, e⟩ := R.bind_ok_iff e
    exact sem2_bool h (R.of_ok e)
  · cases e; exact ⟨_, rfl⟩
  · cases e
theorem tst_op {x y : Expr} {q : CmpOp} {pos : Pos} {o : O2} {za zb : Z} (hK : X.K = c.K) (ho : OpR X (compareOp q) (rD2 X (sem2 o))) (hc : cmpB o = true) (hm : setB y = false) (ha : PE X x (tM c W (evalZ Γ za) (rZ c.K))) (hb : PE X y (tM c W (evalZ Γ zb) (rZ c.K))) :
    PT X (.Compare x [q] [y] pos) (tMb c W (evalT Γ (.op o za zb))) :=
  PT.imp (pt_cmpR ho ha hb (noMarks_of hm)) fun σ H Q h => op_imp hK (test_bool (fun sl d sl' => op_bool hc) h)
theorem tst_chain {x y z : Expr} {q r : CmpOp} {o p : O2} {pos : Pos} {a b d : L} (hK : X.K = c.K) (hm : setB z = false) (ho : OpR X (compareOp q) (rD2 X (sem2 o))) (hp : OpR X (compareOp r) (rD2 X (sem2 p))) (hc : cmpB p = true)
    (ha : PE X x (tM c W (evalE Γ a) (rP c.K))) (hb : PE X y (tM c W (evalE Γ b) (rP c.K))) (hd : PE X z (tM c W (evalE Γ d) (rP c.K))) : PT X (.Compare x [q, r] [y, z] pos) (tMb c W (evalT Γ (.chain o p a b d))) :=
  PT.imp (pt_chain ho hp ha hb hd (lastMarks_of hm)) fun σ H Q h => chain_imp hK (test_bool (fun sl d sl' => chain_bool hc) h)
/-- the data may be read -/
theorem pe_read {e : Expr} {l : L} (h : PE X e (tM c W (evalE Γ l) (rP c.K))) : PE X e (tM c W (evalE Γ l) (rT c.K)) := PE.imp h fun σ H Q ⟨W0, sl, sr, q⟩ =>
  ⟨W0, sl, sr, q.mono fun d W1 sl1 H1 st sr1 q v rv => q v (.rp rv)⟩
theorem tst_comp_none {Γ} : PTs X [] (tMb c W (evalC Γ .none)) := PTs.imp pts_nil fun σ H Q ⟨W0, sl, sr, q⟩ => by
  simp only [evalC] at q
  exact q.now sr
theorem tst_comp_some {e : Expr} {l : L} (h : PT X e (tMb c W (evalT Γ l))) : PTs X [e] (tMb c W (evalC Γ (.some l))) := PTs.imp (pts_one h) fun σ H Q ⟨W0, sl, sr, q⟩ => ⟨W0, sl, sr, by
  simp only [evalC] at q
  exact q⟩
/-- list(x), new -/
theorem list_new (G : Good tb n c N sc X W) {p pos : Pos} {e : Expr} {z : Z} (hg : glB sc "list" = true) (hs : starB e = false) (ha : PE X e (tM c W (evalZ Γ z) (rZ c.K))) : PE X (.Call (.Name "list" p) [e] [] pos) (tN c W (evalN Γ (.bi .list (.cons z .nil)))) := by
  refine PE.imp (pe_callTy (pos := pos) (call_list_of (X := X)) (gl_of G hg) (G.blt _ (by decide +kernel)) (show bootBuiltins "list" = some (.type "list") by decide +kernel) (pa_cons ha pa_nil (starEach_of hs)) (by decide +kernel) (by decide +kernel) (starEach_of hs) rfl) fun σ H Q ⟨W0, sl, sr, q⟩ => ?_
  simp only [evalN, evalE, evalAs] at q
  refine ⟨W0, sl, sr, q.bind.bind.bind.mono fun z1 W1 sl1 H1 st1 sr1 q v rv => ?_⟩
  obtain ⟨d, hd, q⟩ := (q.now sr1).of
  obtain ⟨ds, h1, hd⟩ := Option.bind_eq_some_iff.mp hd
  obtain ⟨x, hx, h1⟩ := Option.bind_eq_some_iff.mp (show (zD sl1 z1).bind (fun x => (resolve sl1 []).map (x :: ·)) = some ds from h1)
  obtain rfl := Option.some.inj (show some [x] = some ds from h1)
  have rx := sr1.zd rv hx
  have q := q.now sr1
  have hd : bList [x] = some d := hd
  unfold bList at hd
  split at hd
  · rename_i xs e1
    cases e1
    obtain rfl := Option.some.inj hd
    obtain ⟨a, ys, rfl, sa, ra⟩ := rx.list
    exact ⟨_, ys, rfl, .inl (by rw [G.hK]; exact sa), fun p hp => new_lst sr1 q ra p hp⟩
  · rename_i xs e1
    cases e1
    obtain rfl := Option.some.inj hd
    obtain ⟨a, ys, rfl, sa, ra, _⟩ := rx.tuple
    exact ⟨_, ys, rfl, .inr (by rw [G.hK]; exact sa), fun p hp => new_lst sr1 q ra p hp⟩
  · cases hd
end
end Rf
end
section
set_option linter.all false
set_option maxRecDepth 100000
set_option maxHeartbeats 1000000
namespace Rf
open PySem PySem.Spec PyProof.Rows L2
section
variable {tb : Tab} {n : Nat} {c : Cfg} {N : List Str} {sc : Scope} {X : Cx} {W : WX}
/-- a new object laid -/
theorem new_obj {W1 : Addr → Prop} {sl1 : Sl} {σ : L2.St} {H1 : Hp} {k : Cell} {Q : VK} {o : HO} (sr1 : SR c W1 sl1 σ H1) (q : WP c W σ W1 H1 (.ok k sl1) (kN c σ Q)) (p : Addr) (hp : H1 p = none)
    (hk : ∀ C', (∀ a u, Rd H1 a u → ¬ un W1 c.C0 a → Rd (upd H1 p o) a u ∧ ¬ C' a) → CellAt c.K (upd H1 p o) C' p k) : Q (.ref p) (upd H1 p o) := by
  have g := upd_grow (o := o) hp
  have np : ∀ a, un W1 c.C0 a → a ≠ p := fun a ha e => by subst e; exact sr1.trk a ha hp
  have hs : ∀ a u, Rd H1 a u → ¬ un W1 c.C0 a → Rd (upd H1 p o) a u ∧ ¬ un (fun b => W1 b ∨ b = p) c.C0 a := fun a u r n => by
    have na : a ≠ p := fun e => by
      subst e
      rcases r with r | ⟨ob, r⟩ <;> (rw [r] at hp; cases hp)
    refine ⟨?_, fun z => ?_⟩
    · rcases r with r | ⟨ob, r⟩
      · exact .inl (g _ _ r)
      · exact .inr ⟨ob, g _ _ r⟩
    · rcases z with (z | z) | z
      · exact n (.inl z)
      · exact na z
      · exact n (.inr z)
  refine q (fun b => W1 b ∨ b = p) (upd H1 p o) ⟨fun a o e _ => g a o e, fun a ha => ha.imp id fun e => by rw [e]; exact hp⟩ ⟨fun a ha e => ?_, sr1.len, fun i x e => ?_, sr1.inj, sr1.org⟩ p (.inr rfl) (fun z => np p (.inr z) rfl) (hk _ hs) fun i b k e1 e2 => ?_
  · by_cases na : a = p
    · subst na; rw [upd_same] at e; cases e
    · rw [upd_ne na] at e
      rcases ha with (z | z) | z
      · exact sr1.trk a (.inl z) e
      · exact na z
      · exact sr1.trk a (.inr z) e
  · obtain ⟨v, e1, r⟩ := sr1.slot i x e
    refine ⟨v, e1, ?_⟩
    cases x with
    | d x => exact Rp.mono hs (show Rp c.K H1 (un W1 c.C0) v x from r)
    | cell own k =>
      obtain ⟨a, ea, wa, ow, ca⟩ := r
      exact ⟨a, ea, .inl wa, ow, ca.grow hs (g a)⟩
    | pin => exact r
  · obtain ⟨v, e3, a, ea, wa, _⟩ := sr1.slot i _ e1
    rw [e2] at e3
    obtain rfl := Option.some.inj (Option.some.inj e3)
    cases ea
    exact np p (.inl wa) rfl
def vOf : D → V
  | .bool b => .bl b
  | .int i => .int i
  | .str x => .str x
  | _ => .non
theorem vOf_rp {K : PySem.W.Frag} {H : Hp} {C : Addr → Prop} : ∀ {d : D} {k : Const}, constB d k = true → Rp K H C (vOf d) d
  | .none, .none, _ => .non
  | .bool a, .bool b, h => .bl a
  | .int a, .int b, h => .int a
  | .str a, .str b, h => by
    obtain ⟨h1, h2⟩ := Bool.and_eq_true_iff.mp (show (a == b && decide (a.length ≤ sizeLine)) = true from h)
    exact .str _ (of_decide_eq_true h2)
theorem pe_cst {X : Cx} {j : Nat} {p : Pos} : ∀ {d : D} {k : Const}, constB d k = true → PE X (.Constant k j p) fun _ H Q => Q (vOf d) H
  | .none, .none, _ => PE.imp pe_non fun σ H Q q => q
  | .bool a, .bool b, h => by
    obtain rfl := beq_iff_eq.mp (show (a == b) = true from h)
    exact PE.imp pe_bl fun σ H Q q => q
  | .int a, .int b, h => by
    obtain rfl := beq_iff_eq.mp (show (a == b) = true from h)
    exact PE.imp pe_int fun σ H Q q => q
  | .str a, .str b, h => by
    obtain ⟨h1, h2⟩ := Bool.and_eq_true_iff.mp (show (a == b && decide (a.length ≤ sizeLine)) = true from h)
    obtain rfl := beq_iff_eq.mp h1
    exact PE.imp pe_str fun σ H Q q => q
def cstB (d : D) : Expr → Bool
  | .Constant k _ _ => constB d k
  | _ => false
def okKV : List (DK × D) → List (Option Expr) → List Expr → Bool
  | [], [], [] => true
  | (k, d) :: r, some e :: ks, v :: vs => cstB (kD k) e && cstB d v && okKV r ks vs
  | _, _, _ => false
theorem vOf_key (k : DK) : vOf (kD k) = kV k := by cases k <;> rfl
/-- the readings of a display's pairs -/
def kvT : List (DK × D) → List (TE × TE)
  | [] => []
  | (k, d) :: r => ((fun _ H Q => Q (kV k) H), fun _ H Q => Q (vOf d) H) :: kvT r
theorem pps_kv {X : Cx} {pos : Pos} : ∀ {kvs : List (DK × D)} {ks : List (Option Expr)} {vs : List Expr}, okKV kvs ks vs = true → PPs X pos ks vs (kvT kvs)
  | [], [], [], _ => pps_nil
  | (k, d) :: r, some e :: ks, v :: vs, h => by
    simp only [okKV, Bool.and_eq_true] at h
    obtain ⟨⟨h1, h2⟩, h3⟩ := h
    refine pps_cons ?_ ?_ (pps_kv h3)
    · unfold cstB at h1
      split at h1
      · have := pe_cst (X := X) (j := by assumption) (p := by assumption) h1
        rw [vOf_key] at this
        exact this
      · cases h1
    · unfold cstB at h2
      split at h2
      · exact pe_cst h2
      · cases h2
  | [], [], _ :: _, h => by simp [okKV] at h
  | [], _ :: _, _, h => by simp [okKV] at h
  | _ :: _, [], _, h => by simp [okKV] at h
  | _ :: _, none :: _, _, h => by simp [okKV] at h
  | _ :: _, some _ :: _, [], h => by simp [okKV] at h
theorem kv_some : ∀ {kvs : List (DK × D)} {ks : List (Option Expr)} {vs : List Expr}, okKV kvs ks vs = true → ks.all (·.isSome) = true ∧ ks.length = vs.length ∧ ks.length = kvs.length
  | [], [], [], _ => ⟨rfl, rfl, rfl⟩
  | (k, d) :: r, some e :: ks, v :: vs, h => by
    simp only [okKV, Bool.and_eq_true] at h
    obtain ⟨h1, h2, h3⟩ := kv_some h.2
    refine ⟨by simpa using h1, by simp [h2], by simp [h3]⟩
  | [], [], _ :: _, h => by simp [okKV] at h
  | [], _ :: _, _, h => by simp [okKV] at h
  | _ :: _, [], _, h => by simp [okKV] at h
  | _ :: _, none :: _, _, h => by simp [okKV] at h
  | _ :: _, some _ :: _, [], h => by simp [okKV] at h
theorem kvT_read : ∀ (kvs : List (DK × D)) {σ : L2.St} {H : Hp} {K : List (V × V) → Hp → Prop}, K (kvs.map fun p => (kV p.1, vOf p.2)) H → tPairs (kvT kvs) σ H K
  | [], σ, H, K, h => h
  | (k, d) :: r, σ, H, K, h => by
    show tPairs (kvT r) σ H fun ps H2 => K ((kV k, vOf d) :: ps) H2
    exact kvT_read r h
theorem merge_nodup : ∀ (more kvs : List (Key × V)), (kvs ++ more).map (·.1) |>.Nodup → mergeK kvs more = kvs ++ more
  | [], kvs, _ => by simp [mergeK]
  | (k, v) :: r, kvs, h => by
    have hn : valV kvs k = none := by
      unfold valV
      rw [Option.map_eq_none_iff, List.find?_eq_none]
      intro p hp e
      have e : p.1 = k := of_decide_eq_true e
      rw [List.map_append, List.nodup_append] at h
      exact h.2.2 k (by rw [← e]; exact List.mem_map_of_mem hp) k (by simp) rfl
    show mergeK (putK kvs k v) r = _
    rw [putK_new v hn, merge_nodup r _ (by simpa using h)]
    simp
def dictB (kvs : List (DK × D)) (ks : List (Option Expr)) (vs : List Expr) : Bool := okKV kvs ks vs && decide (kvs.map (·.1)).Nodup && decide (kvs.length ≤ 15)
theorem new_dict {kvs : List (DK × D)} {ks : List (Option Expr)} {vs : List Expr} {pos : Pos} {Γ} (h : dictB kvs ks vs = true) : PE X (.Dict ks vs pos) (tN c W (evalN Γ (.dict kvs))) := by
  unfold dictB at h
  simp only [Bool.and_eq_true, decide_eq_true_eq] at h
  obtain ⟨⟨h1, h2⟩, h3⟩ := h
  have rk : ∀ {kvs : List (DK × D)} {ks : List (Option Expr)} {vs : List Expr}, okKV kvs ks vs = true → ∀ {H : Hp} {C : Addr → Prop}, RpKV c.K H C (kvs.map fun p => (p.1, vOf p.2)) kvs := by
    intro kvs
    induction kvs with
    | nil => intro _ _ _ _ _; exact .nil
    | cons p r ih =>
      intro ks vs h H C
      obtain ⟨k, d⟩ := p
      match ks, vs, h with
      | some e :: ks, v :: vs, h =>
        simp only [okKV, Bool.and_eq_true] at h
        refine .cons ?_ (ih h.2)
        have h2 := h.1.2
        unfold cstB at h2
        split at h2
        · exact vOf_rp h2
        · cases h2
      | [], _, h => simp [okKV] at h
      | none :: _, _, h => simp [okKV] at h
      | some _ :: _, [], h => simp [okKV] at h
  obtain ⟨g1, g2, g3⟩ := kv_some h1
  cases kvs with
  | nil =>
    cases ks with
    | cons _ _ => simp at g3
    | nil =>
      cases vs with
      | cons _ _ => simp at g2
      | nil =>
        refine PE.imp pe_dnewK fun σ H Q ⟨W0, sl, sr, q⟩ p hp => ?_
        simp only [evalN] at q
        exact new_obj sr q p hp fun C' _ => ⟨[], upd_same, .nil⟩
  | cons kv r =>
    refine PE.imp (pe_disp (pps_kv h1) g1 g2 (fun e => by subst e; simp at g3) (by omega)) fun σ H Q ⟨W0, sl, sr, q⟩ p hp => ?_
    simp only [evalN] at q
    refine kvT_read _ ⟨upd_same, (kv :: r).map fun p => (p.1, vOf p.2), by simp, by simpa using h3, ?_⟩
    rw [upd_upd, merge_nodup _ [] (by rw [List.nil_append, List.map_map]; exact h2)]
    exact new_obj sr q p hp fun C' _ => ⟨_, upd_same, rk h1⟩
theorem snd_dget (G : Good tb n c N sc X W) {x : Str} {p apos cpos : Pos} {e f : Expr} {i : Nat} {a b : L} {Γ} (hn : nameB N sc i x = true) (hl : (apos.endLine == cpos.line) = true) (hs : starB e = false) (hs2 : starB f = false) (ha : PE X e (tM c W (evalE Γ a) (rP c.K))) (hb : PE X f (tM c W (evalE Γ b) (rP c.K))) :
    PE X (.Call (.Attribute (.Name x p) "get" apos) [e, f] [] cpos) (tM c W (evalE Γ (.dget i a b)) (rP c.K)) := by
  have hu := units_of G.room
  have st : starEach [e, f] X.env = [(false, eval e X.env), (false, eval f X.env)] := by rw [starEach_of hs, starEach_of hs2]; rfl
  refine PE.imp (pe_dget2 (by omega) (pe_name G hn) ha hb ⟨rfl, by rw [st]; rfl, hl, by rw [st]; rfl⟩) fun σ H Q ⟨W0, sl, sr, q⟩ => ?_
  simp only [evalE] at q
  split at q
  · rename_i hi
    unfold isDct at hi
    split at hi
    · rename_i own kvs hk
      obtain ⟨v, e1, ad, rfl, wa, ow, vs, ea, ra⟩ := sr.slot i _ hk
      refine ⟨_, e1, ad, rfl, .inl ⟨vs, .of ea⟩, W0, sl, sr, q.bind.mono fun y W1 sl1 H1 st1 sr1 q v rv => ⟨W1, sl1, sr1, q.bind.mono fun z W2 sl2 H2 st2 sr2 q u ru => ?_⟩⟩
      split at q
      · rename_i own2 kvs2 hk2
        obtain ⟨d, hd, q⟩ := q.of
        obtain ⟨k, hk3, rfl⟩ := Option.map_eq_some_iff.mp hd
        obtain ⟨v2, e2, ad2, rfl, wa2, ow2, vs2, ea2, ra2⟩ := sr2.slot i _ hk2
        cases (Option.some.inj (Option.some.inj (e1.symm.trans e2)))
        obtain rfl := (Rt.rp (show Rp c.K H1 (un W1 c.C0) v y from rv)).key hk3
        refine ⟨_, .k ea2, q.now sr2 _ ?_⟩
        have g := ra2.get k
        cases hv : valV vs2 k with
        | none =>
          rw [hv] at g
          cases hv2 : vGet kvs2 k with
          | none => exact ru
          | some _ => rw [hv2] at g; cases g
        | some w =>
          rw [hv] at g
          cases hv2 : vGet kvs2 k with
          | none => rw [hv2] at g; cases g
          | some _ => rw [hv2] at g; cases g with | some g => exact g
      · exact q.elim
    · cases hi
  · exact q.elim
/-- xs + ys, new -/
theorem new_cat (G : Good tb n c N sc X W) {x y : Expr} {p : Pos} {za zb : Z} {Γ} (ha : PE X x (tM c W (evalZ Γ za) (rZ c.K))) (hb : PE X y (tM c W (evalZ Γ zb) (rZ c.K))) : PE X (.BinOp x .Add y p) (tN c W (evalN Γ (.op .add za zb))) := by
  refine PE.imp (pe_op (pos := p) (op_catL (X := X)) ha hb) fun σ H Q ⟨W0, sl, sr, q⟩ => ?_
  simp only [evalN, evalE] at q
  refine ⟨W0, sl, sr, q.bind.bind.mono fun z1 W1 sl1 H1 st1 sr1 q v rv => ⟨W1, sl1, sr1, q.bind.mono fun z2 W2 sl2 H2 st2 sr2 q u ru => ?_⟩⟩
  obtain ⟨d, hd, q⟩ := (q).of
  have q := q.now sr2
  obtain ⟨d1, h1, hd⟩ := Option.bind_eq_some_iff.mp (show (zD sl2 z1).bind _ = some d from hd)
  obtain ⟨d2, h2, hd⟩ := Option.bind_eq_some_iff.mp hd
  have r1 := sr2.zd (rZ.step st2 rv) h1
  have r2 := sr2.zd ru h2
  have hd : sAdd d1 d2 = some d := hd
  unfold sAdd at hd
  split at hd
  · obtain rfl := Option.some.inj hd; exact q.elim
  · split at hd
    · obtain rfl := Option.some.inj hd; exact q.elim
    · cases hd
  · split at hd
    · rename_i hl
      obtain rfl := Option.some.inj hd
      obtain ⟨a, xs, rfl, sa, ra⟩ := r1.list
      obtain ⟨b, ys, rfl, sb, rb⟩ := r2.list
      refine ⟨a, b, xs, ys, rfl, rfl, by rw [G.hK]; exact sa, by rw [G.hK]; exact sb, by rw [ra.length, rb.length]; exact hl, fun p hp => new_lst sr2 q (ra.append rb) p hp⟩
    · cases hd
  · split at hd
    · obtain rfl := Option.some.inj hd; exact q.elim
    · cases hd
  · cases hd
/-- k in SIGNS, as a test -/
theorem tst_gin (G : Good tb n c N sc X W) {x : Str} {e : Expr} {p pos : Pos} {a : L} {neg : Bool} {Γ} (hx : tb.sname = some x) (hg : glB sc x = true) (hd : (x == ("__debug__" : Str)) = false) (ha : PE X e (tM c W (evalE Γ a) (rP c.K))) :
    PT X (.Compare e [if neg then .NotIn else .In] [.Name x p] pos) (tMb c W (evalT Γ (.gin neg a))) := by
  obtain ⟨d, es, k, h1, h2, h3⟩ := (G.sgn x hx).ex
  have pg : PE X (.Name x p) (tC (.ref d)) := pe_glob (gl_of G hg) h1 rfl hd
  have get : ∀ {σ : L2.St} {H : Hp} {Q : Bool → Hp → Prop}, tMb c W (evalT Γ (.gin neg a)) σ H Q → tM c W (evalE Γ a) (rP c.K) σ H fun v H1 => ∃ z, v = .str z ∧ Q (if neg then !(signsTab.any fun p => p.1 == z) else signsTab.any fun p => p.1 == z) H1 := by
    intro σ H Q ⟨W0, sl, sr, q⟩
    unfold evalT at q
    simp only [evalE] at q
    refine ⟨W0, sl, sr, q.bind.bind.mono fun y W1 sl1 H1 st1 sr1 q v rv => ?_⟩
    split at q
    · rename_i z
      obtain ⟨rfl, _⟩ := (Rt.rp (show Rp c.K H1 (un W1 c.C0) v (.str z) from rv)).str
      exact ⟨z, rfl, (q.now sr1).now sr1⟩
    · exact q.elim
  cases neg with
  | false =>
    refine PT.imp (pt_cmpR (op_in_kd h2) ha pg (by rfl)) fun σ H Q q => ?_
    obtain ⟨W0, sl, sr, q⟩ := get q
    refine ⟨W0, sl, sr, q.mono fun y W1 sl1 H1 st1 sr1 q v rv => ?_⟩
    obtain ⟨z, rfl, q⟩ := q v rv
    obtain ⟨r, e1, e2⟩ := h3 z
    refine ⟨z, r, rfl, rfl, e1, ?_⟩
    rw [rels_some e2, lookup_any]
    exact ⟨_, rfl, q⟩
  | true =>
    refine PT.imp (pt_cmpR (op_notIn_kd h2) ha pg (by rfl)) fun σ H Q q => ?_
    obtain ⟨W0, sl, sr, q⟩ := get q
    refine ⟨W0, sl, sr, q.mono fun y W1 sl1 H1 st1 sr1 q v rv => ?_⟩
    obtain ⟨z, rfl, q⟩ := q v rv
    obtain ⟨r, e1, e2⟩ := h3 z
    refine ⟨z, r, rfl, rfl, e1, ?_⟩
    rw [rels_some e2, lookup_any]
    exact ⟨_, rfl, q⟩
end
end Rf
end
section
set_option linter.all false
set_option maxRecDepth 100000
set_option maxHeartbeats 1000000
namespace Rf
open PySem PySem.Spec PyProof.Rows L2
/-- the rows as things that only this block may write -/
def Cfg.rows (c : Cfg) (a : Addr) (rs : List Addr) : Cfg := { c with C0 := fun x => c.C0 x ∨ x = a ∨ x ∈ rs, pv := .ref a }
def Cfg.rowV (c : Cfg) (a : Addr) (rs : List Addr) (v : Nat) (r : Addr) : Cfg := { c with C0 := fun x => c.C0 x ∨ x = a ∨ x ∈ rs, pv := .ref a, org := fun i u => if i = v then u = .ref r else c.org i u }
section
variable {c : Cfg} {W : Addr → Prop} {sl : Sl} {σ : L2.St} {H H' : Hp} {a r : Addr} {rs : List Addr} {v i : Nat}
theorem SR.forget (sr : SR c W sl σ H) (v : Nat) : SR c W (sl.set v none) σ H := by
  have cl : ∀ {j : Nat} {y : Rf.X}, (sl.set v none)[j]? = some (some y) → j ≠ v ∧ sl[j]? = some (some y) := fun {j y} h => by
    by_cases hj : j = v
    · subst hj
      by_cases hl : j < sl.length
      · rw [List.getElem?_set_self hl] at h; cases h
      · rw [List.getElem?_eq_none (by rw [List.length_set]; omega)] at h; cases h
    · rw [List.getElem?_set_ne (Ne.symm hj)] at h
      exact ⟨hj, h⟩
  exact ⟨sr.trk, by rw [List.length_set]; exact sr.len, fun j y h => sr.slot j y (cl h).2, fun j j' b b' k k' u h1 h2 => sr.inj j j' b b' k k' u (cl h1).2 (cl h2).2, fun j k u h1 => sr.org j k u (cl h1).2⟩
/-- the block begins -/
theorem SR.toRows (sr : SR c W sl σ H) (hn : ∀ x, (x = a ∨ x ∈ rs) → H x = none) (g : ∀ x o, H x = some o → H' x = some o) (hh : ∀ x, (x = a ∨ x ∈ rs) → H' x ≠ none) (hi : i < sl.length) (hp : ∀ j : Nat, sl[j]? ≠ some (some Rf.X.pin)) :
    SR (c.rows a rs) W (sl.set i (some .pin)) (σ.set i (some (.ref a))) H' := by
  have fresh : ∀ x, un W c.C0 x → ¬ (x = a ∨ x ∈ rs) := fun x hx z => sr.trk x hx (hn x z)
  have hs : ∀ x u, Rd H x u → ¬ un W c.C0 x → Rd H' x u ∧ ¬ un W (c.rows a rs).C0 x := fun x u q n => by
    refine ⟨?_, fun z => ?_⟩
    · rcases q with q | ⟨o, q⟩
      · exact .inl (g _ _ q)
      · exact .inr ⟨o, g _ _ q⟩
    · rcases z with z | z | z
      · exact n (.inl z)
      · exact n (.inr z)
      · have := hn x z
        rcases q with q | ⟨o, q⟩ <;> (rw [q] at this; cases this)
  have cl : ∀ {j : Nat} {y : Rf.X}, (sl.set i (some .pin))[j]? = some (some y) → (j = i ∧ y = .pin) ∨ (j ≠ i ∧ sl[j]? = some (some y)) := fun {j y} h => by
    by_cases hj : j = i
    · subst hj
      rw [List.getElem?_set_self hi] at h
      exact .inl ⟨rfl, (Option.some.inj (Option.some.inj h)).symm⟩
    · rw [List.getElem?_set_ne (Ne.symm hj)] at h
      exact .inr ⟨hj, h⟩
  have cc : ∀ {j : Nat} {b : Bool} {k : Cell}, (sl.set i (some .pin))[j]? = some (some (.cell b k)) → j ≠ i ∧ sl[j]? = some (some (.cell b k)) := fun {j b k} h => by
    rcases cl h with ⟨_, e⟩ | e
    · cases e
    · exact e
  have sg : ∀ {j : Nat}, j ≠ i → (σ.set i (some (.ref a)))[j]? = σ[j]? := fun {j} h => List.getElem?_set_ne (Ne.symm h)
  refine ⟨fun x hx e => ?_, by rw [List.length_set, List.length_set]; exact sr.len, fun j y h => ?_, fun j j' b b' k k' u h1 h2 h3 h4 => ?_, fun j k u h1 h2 => ?_⟩
  · have old : un W c.C0 x → False := fun z => by
      cases q : H x with
      | none => exact sr.trk x z q
      | some o => rw [g x o q] at e; cases e
    rcases hx with z | z | z
    · exact old (.inl z)
    · exact old (.inr z)
    · exact hh x z e
  · rcases cl h with ⟨rfl, rfl⟩ | ⟨hj, h⟩
    · exact ⟨.ref a, List.getElem?_set_self (by rw [← sr.len]; exact hi), rfl⟩
    · obtain ⟨u, e, q⟩ := sr.slot j y h
      refine ⟨u, by rw [sg hj]; exact e, ?_⟩
      cases y with
      | d x => exact Rp.mono hs (show Rp c.K H (un W c.C0) u x from q)
      | cell own k =>
        obtain ⟨b, rfl, wb, ow, ca⟩ := q
        refine ⟨b, rfl, wb, ?_, ca.grow hs (g b)⟩
        exact ⟨fun z w => w.elim (ow.mp z) fun w => fresh b (.inl wb) w, fun z => ow.mpr fun w => z (.inl w)⟩
      | pin => exact absurd h (hp j)
  · obtain ⟨n1, g1⟩ := cc h1
    obtain ⟨n2, g2⟩ := cc h2
    rw [sg n1] at h3
    rw [sg n2] at h4
    exact sr.inj j j' b b' k k' u g1 g2 h3 h4
  · obtain ⟨n1, g1⟩ := cc h1
    rw [sg n1] at h2
    exact sr.org j k u g1 h2
/-- a row becomes the loop's own -/
theorem SR.toV (sr : SR (c.rows a rs) W sl σ H) {vs : List V} {xs : List Rf.D} (hr : r ∈ rs) (nw : ¬ W r) (hH : H r = some (.lst vs)) (ra : RpAll c.K H (un W (c.rows a rs).C0) vs xs) (hv : isData sl v = true) (hl : v < sl.length) :
    SR (c.rowV a rs v r) (fun x => W x ∨ x = r) (sl.set v (some (.cell false (.lst xs)))) (σ.set v (some (.ref r))) H := by
  have cr : (c.rows a rs).C0 r := .inr (.inr hr)
  have hu : ∀ x, un (fun x => W x ∨ x = r) (c.rowV a rs v r).C0 x → un W (c.rows a rs).C0 x := fun x z => by
    rcases z with (z | z) | z
    · exact .inl z
    · subst z; exact .inr cr
    · exact .inr z
  have hs : ∀ x u, Rd H x u → ¬ un W (c.rows a rs).C0 x → Rd H x u ∧ ¬ un (fun x => W x ∨ x = r) (c.rowV a rs v r).C0 x := fun x u q n => ⟨q, fun z => n (hu x z)⟩
  have cl : ∀ {j : Nat} {y : Rf.X}, (sl.set v (some (.cell false (.lst xs))))[j]? = some (some y) → (j = v ∧ y = .cell false (.lst xs)) ∨ (j ≠ v ∧ sl[j]? = some (some y)) := fun {j y} h => by
    by_cases hj : j = v
    · subst hj
      rw [List.getElem?_set_self hl] at h
      exact .inl ⟨rfl, (Option.some.inj (Option.some.inj h)).symm⟩
    · rw [List.getElem?_set_ne (Ne.symm hj)] at h
      exact .inr ⟨hj, h⟩
  have sg : ∀ {j : Nat}, j ≠ v → (σ.set v (some (.ref r)))[j]? = σ[j]? := fun {j} h => List.getElem?_set_ne (Ne.symm h)
  have sv : (σ.set v (some (.ref r)))[v]? = some (some (.ref r)) := List.getElem?_set_self (by rw [← sr.len]; exact hl)
  have other : ∀ {j : Nat} {b : Bool} {k : Cell}, sl[j]? = some (some (.cell b k)) → σ[j]? ≠ some (some (.ref r)) := fun {j b k} h e => by
    obtain ⟨u, e1, x, rfl, wx, _⟩ := sr.slot j _ h
    rw [e] at e1
    cases (Option.some.inj (Option.some.inj e1))
    exact nw wx
  refine ⟨fun x hx => sr.trk x (hu x hx), by rw [List.length_set, List.length_set]; exact sr.len, fun j y h => ?_, fun j j' b b' k k' u h1 h2 h3 h4 => ?_, fun j k u h1 h2 => ?_⟩
  · rcases cl h with ⟨rfl, rfl⟩ | ⟨hj, h⟩
    · exact ⟨.ref r, sv, r, rfl, .inr rfl, ⟨fun z => absurd z (by decide), fun z => absurd cr z⟩, vs, hH, ra.mono hs⟩
    · obtain ⟨u, e, q⟩ := sr.slot j y h
      refine ⟨u, by rw [sg hj]; exact e, ?_⟩
      cases y with
      | d x => exact Rp.mono hs (show Rp c.K H (un W (c.rows a rs).C0) u x from q)
      | cell own k =>
        obtain ⟨b, rfl, wb, ow, ca⟩ := q
        exact ⟨b, rfl, .inl wb, ow, ca.grow hs fun _ z => z⟩
      | pin => exact q
  · rcases cl h1 with ⟨e1, _⟩ | ⟨n1, g1⟩
    · rcases cl h2 with ⟨e2, _⟩ | ⟨n2, g2⟩
      · rw [e1, e2]
      · rw [e1, sv] at h3
        rw [sg n2] at h4
        cases (Option.some.inj (Option.some.inj h3))
        exact absurd h4 (other g2)
    · rcases cl h2 with ⟨e2, _⟩ | ⟨n2, g2⟩
      · rw [e2, sv] at h4
        rw [sg n1] at h3
        cases (Option.some.inj (Option.some.inj h4))
        exact absurd h3 (other g1)
      · rw [sg n1] at h3
        rw [sg n2] at h4
        exact sr.inj j j' b b' k k' u g1 g2 h3 h4
  · rcases cl h1 with ⟨e1, _⟩ | ⟨n1, g1⟩
    · subst e1
      rw [sv] at h2
      show if j = j then u = .ref r else _
      rw [if_pos rfl]
      exact (Option.some.inj (Option.some.inj h2)).symm
    · rw [sg n1] at h2
      show if j = v then u = .ref r else _
      rw [if_neg n1]
      exact sr.org j k u g1 h2
/-- .. and the block's again -/
theorem SR.ofV (sr : SR (c.rowV a rs v r) W sl σ H) {ys : List Rf.D} (hr : r ∈ rs) (hv : sl[v]? = some (some (.cell false (.lst ys)))) :
    (∃ vs, H r = some (.lst vs) ∧ RpAll c.K H (un (fun x => W x ∧ x ≠ r) (c.rows a rs).C0) vs ys) ∧ SR (c.rows a rs) (fun x => W x ∧ x ≠ r) (sl.set v none) σ H := by
  have cr : (c.rows a rs).C0 r := .inr (.inr hr)
  have hu : ∀ x, un (fun x => W x ∧ x ≠ r) (c.rows a rs).C0 x → un W (c.rowV a rs v r).C0 x := fun x z => by
    rcases z with z | z
    · exact .inl z.1
    · exact .inr z
  have hs : ∀ x u, Rd H x u → ¬ un W (c.rowV a rs v r).C0 x → Rd H x u ∧ ¬ un (fun x => W x ∧ x ≠ r) (c.rows a rs).C0 x := fun x u q n => ⟨q, fun z => n (hu x z)⟩
  obtain ⟨w, e0, b0, rfl, wb0, ow0, vs, e1, ra⟩ := sr.slot v _ hv
  have og : V.ref b0 = .ref r := by
    have := sr.org v _ _ hv e0
    have h2 : (if v = v then V.ref b0 = .ref r else c.org v (.ref b0)) := this
    rw [if_pos rfl] at h2
    exact h2
  cases og
  refine ⟨⟨vs, e1, ra.mono hs⟩, ?_⟩
  have cl : ∀ {j : Nat} {y : Rf.X}, (sl.set v none)[j]? = some (some y) → j ≠ v ∧ sl[j]? = some (some y) := fun {j y} h => by
    by_cases hj : j = v
    · subst hj
      rw [List.getElem?_set_self (List.getElem?_eq_some_iff.mp hv).1] at h; cases h
    · rw [List.getElem?_set_ne (Ne.symm hj)] at h
      exact ⟨hj, h⟩
  refine ⟨fun x hx => sr.trk x (hu x hx), by rw [List.length_set]; exact sr.len, fun j y h => ?_, fun j j' b b' k k' u h1 h2 h3 h4 => ?_, fun j k u h1 h2 => ?_⟩
  · obtain ⟨hj, h⟩ := cl h
    obtain ⟨u, e, q⟩ := sr.slot j y h
    refine ⟨u, e, ?_⟩
    cases y with
    | d x => exact Rp.mono hs (show Rp c.K H (un W (c.rowV a rs v r).C0) u x from q)
    | cell own k =>
      obtain ⟨b, rfl, wb, ow, ca⟩ := q
      refine ⟨b, rfl, ⟨wb, fun z => ?_⟩, ow, ca.grow hs fun _ z => z⟩
      subst z
      exact hj (sr.inj j v own false k (.lst ys) _ h hv e e0)
    | pin => exact q
  · exact sr.inj j j' b b' k k' u (cl h1).2 (cl h2).2 h3 h4
  · obtain ⟨n1, g1⟩ := cl h1
    have := sr.org j k u g1 h2
    have h2 : (if j = v then u = .ref r else c.org j u) := this
    rw [if_neg n1] at h2
    exact h2
/-- the rows, as they stand -/
def RowsAt (K : PySem.W.Frag) (H : Hp) (C : Addr → Prop) (rs : List Addr) (xss : List (List Rf.D)) : Prop := rs.length = xss.length ∧ ∀ (j : Nat) (r : Addr) (xs : List Rf.D), rs[j]? = some r → xss[j]? = some xs → ∃ vs, H r = some (.lst vs) ∧ RpAll K H C vs xs
theorem RowsAt.keep {K : PySem.W.Frag} {C C' : Addr → Prop} {xss : List (List Rf.D)} (h : RowsAt K H C rs xss) (hs : ∀ x u, Rd H x u → ¬ C x → Rd H' x u ∧ ¬ C' x) (hr : ∀ r ∈ rs, ∀ o, H r = some o → H' r = some o) : RowsAt K H' C' rs xss := by
  refine ⟨h.1, fun j r xs e1 e2 => ?_⟩
  obtain ⟨vs, h1, h2⟩ := h.2 j r xs e1 e2
  exact ⟨vs, hr r (List.mem_of_getElem? e1) _ h1, h2.mono hs⟩
theorem RowsAt.put {K : PySem.W.Frag} {C C' : Addr → Prop} {xss : List (List Rf.D)} (h : RowsAt K H C rs xss) (hs : ∀ x u, Rd H x u → ¬ C x → Rd H' x u ∧ ¬ C' x) (nd : rs.Nodup) {j : Nat} {ys : List Rf.D} {vs : List V} (hj : rs[j]? = some r) (hr : ∀ r' ∈ rs, r' ≠ r → ∀ o, H r' = some o → H' r' = some o) (hv : H' r = some (.lst vs)) (ra : RpAll K H' C' vs ys) :
    RowsAt K H' C' rs (xss.set j ys) := by
  refine ⟨by rw [List.length_set]; exact h.1, fun j2 r2 xs e1 e2 => ?_⟩
  by_cases hjj : j2 = j
  · subst hjj
    obtain rfl := Option.some.inj (hj.symm.trans e1)
    have hl := (List.getElem?_eq_some_iff.mp e2).1
    rw [List.length_set] at hl
    rw [List.getElem?_set_self hl] at e2
    obtain rfl := Option.some.inj e2
    exact ⟨vs, hv, ra⟩
  · rw [List.getElem?_set_ne (Ne.symm hjj)] at e2
    obtain ⟨us, h1, h2⟩ := h.2 j2 r2 xs e1 e2
    refine ⟨us, hr r2 (List.mem_of_getElem? e1) (fun e => hjj ?_) _ h1, h2.mono hs⟩
    subst e
    have l1 := (List.getElem?_eq_some_iff.mp e1)
    have l2 := (List.getElem?_eq_some_iff.mp hj)
    exact (List.getElem_inj nd).mp (l1.2.trans l2.2.symm)
/-- the block ends: the rows are data -/
theorem SR.fromRows (sr : SR (c.rows a rs) W sl σ H) {yss : List (List Rf.D)} (hp : sl[i]? = some (some .pin)) (np : ∀ j : Nat, j ≠ i → sl[j]? ≠ some (some Rf.X.pin)) (nw : ∀ x, (x = a ∨ x ∈ rs) → ¬ W x) (nc : ∀ x, (x = a ∨ x ∈ rs) → ¬ c.C0 x) (hH : H a = some (.lst (rs.map V.ref))) (rw_ : RowsAt c.K H (un W (c.rows a rs).C0) rs yss) :
    SR c W (sl.set i (some (.d (.list (yss.map .list))))) σ H := by
  have hu : ∀ x, un W c.C0 x → un W (c.rows a rs).C0 x := fun x z => z.imp id .inl
  have hs : ∀ x u, Rd H x u → ¬ un W (c.rows a rs).C0 x → Rd H x u ∧ ¬ un W c.C0 x := fun x u q n => ⟨q, fun z => n (hu x z)⟩
  have hi := (List.getElem?_eq_some_iff.mp hp).1
  have cl : ∀ {j : Nat} {y : Rf.X}, (sl.set i (some (.d (.list (yss.map .list)))))[j]? = some (some y) → (j = i ∧ y = .d (.list (yss.map .list))) ∨ (j ≠ i ∧ sl[j]? = some (some y)) := fun {j y} h => by
    by_cases hj : j = i
    · subst hj
      rw [List.getElem?_set_self hi] at h
      exact .inl ⟨rfl, (Option.some.inj (Option.some.inj h)).symm⟩
    · rw [List.getElem?_set_ne (Ne.symm hj)] at h
      exact .inr ⟨hj, h⟩
  have cc : ∀ {j : Nat} {b : Bool} {k : Cell}, (sl.set i (some (.d (.list (yss.map .list)))))[j]? = some (some (.cell b k)) → sl[j]? = some (some (.cell b k)) := fun {j b k} h => by
    rcases cl h with ⟨_, e⟩ | e
    · cases e
    · exact e.2
  have out : ∀ x, (x = a ∨ x ∈ rs) → ¬ un W c.C0 x := fun x hx z => z.elim (nw x hx) (nc x hx)
  refine ⟨fun x hx => sr.trk x (hu x hx), by rw [List.length_set]; exact sr.len, fun j y h => ?_, fun j j' b b' k k' u h1 h2 => sr.inj j j' b b' k k' u (cc h1) (cc h2), fun j k u h1 => sr.org j k u (cc h1)⟩
  rcases cl h with ⟨rfl, rfl⟩ | ⟨hj, h⟩
  · obtain ⟨u, e, q⟩ := sr.slot j _ hp
    obtain rfl : u = .ref a := q
    refine ⟨_, e, .lst (.inl ⟨.of hH, out a (.inl rfl)⟩) ?_⟩
    have all : ∀ {rs' : List Addr} {yss' : List (List Rf.D)}, (∀ r ∈ rs', r ∈ rs) → rs'.length = yss'.length → (∀ (j : Nat) (r : Addr) (xs : List Rf.D), rs'[j]? = some r → yss'[j]? = some xs → ∃ vs, H r = some (.lst vs) ∧ RpAll c.K H (un W (c.rows a rs).C0) vs xs) → RpAll c.K H (un W c.C0) (rs'.map V.ref) (yss'.map .list) := by
      intro rs'
      induction rs' with
      | nil =>
        intro yss' _ hl _
        cases yss' with
        | nil => exact .nil
        | cons _ _ => simp at hl
      | cons r rs' ih =>
        intro yss' hm hl hr
        cases yss' with
        | nil => simp at hl
        | cons ys yss' =>
          obtain ⟨vs, h1, h2⟩ := hr 0 r ys rfl rfl
          refine .cons (.lst (.inl ⟨.of h1, out r (.inr (hm r List.mem_cons_self))⟩) (h2.mono hs)) (ih (fun r' hr' => hm r' (List.mem_cons_of_mem _ hr')) (by simpa using hl) fun j r' xs e1 e2 => hr (j + 1) r' xs (by simpa using e1) (by simpa using e2))
    exact all (fun _ h => h) rw_.1 rw_.2
  · obtain ⟨u, e, q⟩ := sr.slot j y h
    refine ⟨u, e, ?_⟩
    cases y with
    | d x => exact Rp.mono hs (show Rp c.K H (un W (c.rows a rs).C0) u x from q)
    | cell own k =>
      obtain ⟨b, rfl, wb, ow, ca⟩ := q
      refine ⟨b, rfl, wb, ?_, ca.grow hs fun _ z => z⟩
      refine ⟨fun z w => ow.mp z (.inl w), fun z => ow.mpr fun w => w.elim z fun w => nw b w wb⟩
    | pin => exact absurd h (np j hj)
end
end Rf
end
section
set_option linter.all false
set_option maxRecDepth 100000
set_option maxHeartbeats 2000000
namespace Rf
open PySem PySem.Spec PyProof.Rows L2
section
variable {tb : Tab} {n : Nat} {c : Cfg} {N : List Str} {sc : Scope} {X : Cx} {W : WX}
theorem Good.rows (G : Good tb n c N sc X W) (a : Addr) (rs : List Addr) : Good tb n (c.rows a rs) N sc X W :=
  ⟨G.hK, G.hN, G.nd, G.hsc, G.calm, G.room, G.tk, fun f x h => ⟨(G.fn f x h).ex⟩, G.blt, fun g x h => ⟨(G.glb g x h).ex⟩, fun x h => ⟨(G.sgn x h).ex⟩⟩
theorem Good.rowV (G : Good tb n c N sc X W) (a : Addr) (rs : List Addr) (v : Nat) (r : Addr) : Good tb n (c.rowV a rs v r) N sc X W :=
  ⟨G.hK, G.hN, G.nd, G.hsc, G.calm, G.room, G.tk, fun f x h => ⟨(G.fn f x h).ex⟩, G.blt, fun g x h => ⟨(G.glb g x h).ex⟩, fun x h => ⟨(G.sgn x h).ex⟩⟩
theorem GoodS.rowV (G : GoodS tb n c N sc X W) (a : Addr) (rs : List Addr) (v : Nat) (r : Addr) : GoodS tb n (c.rowV a rs v r) N sc X W :=
  ⟨G.G.rowV a rs v r, G.own, G.stk, G.frm, G.fnT⟩
theorem Stp.less {W W1 W2 : Addr → Prop} {H H1 : Hp} (s : Stp W H W1 H1) (h : ∀ x, W2 x → W1 x) : Stp W H W2 H1 := ⟨s.keep, fun x z => s.free x (h x z)⟩
theorem Stp.more {W W1 : Addr → Prop} {H H1 : Hp} (s : Stp W H W1 H1) {r : Addr} (hr : H r = none) : Stp W H (fun x => W1 x ∨ x = r) H1 := ⟨s.keep, fun x z => z.elim (s.free x) fun e => .inr (by rw [e]; exact hr)⟩
theorem pinned_of {sl : Sl} {i : Nat} (h : pinned sl i = true) : sl[i]? = some (some .pin) := by
  unfold pinned at h
  split at h
  · assumption
  · cases h
theorem noPins_of {sl : Sl} (h : noPins sl = true) (j : Nat) : sl[j]? ≠ some (some .pin) := fun e => by
  have := List.all_eq_true.mp h _ (List.mem_of_getElem? e)
  cases this
def fillT (Γ : Nat → List Rf.X → CR) (i : Nat) (t : T) (k e : L) : D → Sl → R (D × D) := fun x sl => match assignT t x sl with
  | none => .stuck
  | some sl => if pinned sl i then (evalE Γ k sl).bind fun y sl => (evalE Γ e sl).bind fun z sl => .ok (y, z) sl else .stuck
def rowsRest (Γ : Nat → List Rf.X → CR) (i : Nat) (t : T) (it : I) (k e : L) (v : Nat) (body : Ss) (m : Int) (sl : Sl) : F :=
  if smallI m && decide (m ≤ 1000) && noPins sl && isData sl i && isData sl v && decide (i < sl.length) && decide (v < sl.length) && decide (i ≠ v) then
    match evalI Γ it ((sl.set i (some .pin)).set v none) with
    | .ok xs sl1 => match rowsFill (fillT Γ i t k e) xs (List.replicate m.toNat []) sl1 with
      | some (xss, sl2) => if isData sl2 v && pinned sl2 i && decide (v < sl2.length) then match rowsWalk (evalSs Γ body) v xss [] sl2 with
        | some (yss, sl3) => if pinned sl3 i && noPins (sl3.set i none) then .nx (sl3.set i (some (.d (.list (yss.map .list))))) else .stuck
        | none => .stuck
        else .stuck
      | none => .stuck
    | _ => .stuck
  else .stuck
theorem evalS_rows {Γ : Nat → List Rf.X → CR} {i w v : Nat} {nn k e : L} {t : T} {it : I} {body : Ss} {sl : Sl} {q : F → Prop} (h : q (evalS Γ (.rows i w nn t it k e v body) sl)) (hs : ∀ f, q f → f = .stuck → False) :
    q ((evalE Γ nn sl).run fun x sl => match x with | .int m => rowsRest Γ i t it k e v body m sl | _ => .stuck) := by
  have ee : evalS Γ (.rows i w nn t it k e v body) sl = ((evalE Γ nn sl).run fun x sl => match x with | .int m => (if smallI m && decide (m ≤ 1000) && noPins sl && [i, w, v].all (isData sl) && decide (i < sl.length) && decide (v < sl.length) && decide (i ≠ v) then rowsRest Γ i t it k e v body m sl else .stuck) | _ => .stuck) := by
    simp only [evalS]
    congr 1
    funext x sl
    cases x with
    | int m =>
      dsimp only
      by_cases hc : (smallI m && decide (m ≤ 1000) && noPins sl && [i, w, v].all (isData sl) && decide (i < sl.length) && decide (v < sl.length) && decide (i ≠ v)) = true
      · rw [if_pos hc, if_pos hc]
        unfold rowsRest
        have hc2 : (smallI m && decide (m ≤ 1000) && noPins sl && isData sl i && isData sl v && decide (i < sl.length) && decide (v < sl.length) && decide (i ≠ v)) = true := by
          simp only [List.all_cons, List.all_nil, Bool.and_true, Bool.and_eq_true] at hc ⊢
          obtain ⟨⟨⟨⟨⟨⟨h1, h2⟩, h3⟩, h4, h5, h6⟩, h7⟩, h8⟩, h9⟩ := hc
          exact ⟨⟨⟨⟨⟨⟨⟨h1, h2⟩, h3⟩, h4⟩, h6⟩, h7⟩, h8⟩, h9⟩
        rw [if_pos hc2]
        rfl
      · rw [if_neg hc, if_neg hc]
    | _ => rfl
  rw [ee] at h
  cases hn : evalE Γ nn sl with
  | stuck => rw [hn] at h; exact h
  | exc e' sl1 => rw [hn] at h; exact h
  | ok x sl1 =>
    rw [hn] at h
    rw [R.run_ok]
    cases x with
    | int m =>
      have h : q (if _ then rowsRest Γ i t it k e v body m sl1 else .stuck) := h
      split at h
      · exact h
      · exact (hs _ h rfl).elim
    | _ => exact h
/-- [[] for w in range(n)] -/
def tNew : TE := fun _ H Q => ∀ a, H a = none → Q (.ref a) (upd H a (.lst []))
theorem pe_new {p : Pos} : PE X (.List [] p) tNew := PE.imp (pe_lst pa_nil) fun σ H Q q => ⟨Nat.zero_le _, fun a ha => q a ha⟩
theorem mk_rows {J : It} {m : Nat} {src : (Addr → Prop) → Hp → Prop} {C : Addr → Prop} {w : Nat} {σ : L2.St} {H1 : Hp} {E : Hp → Prop} {K : PySem.W.Frag} (S : Srv K J (rangeD 0 m) src) (hsrc : src C H1) (trk : ∀ x, C x → H1 x ≠ none) (hm : m ≤ 1000) {D : Addr} (hD : H1 D = none)
    (q : ∀ (rs : List Addr) (H : Hp), rs.length = m → rs.Nodup → (∀ x o, H1 x = some o → H x = some o) → H D = some (.lst (rs.map V.ref)) → (∀ r ∈ rs, H1 r = none ∧ r ≠ D ∧ H r = some (.lst [])) → E H) :
    ∃ Wv : Nat → Nat → Hp → Prop, (∃ m, Wv 0 m (upd H1 D (.lst []))) ∧ ∀ i m H, Wv i m H → (J.stop i H ∧ E H) ∨ (J.go i H ∧ ∃ Nx : Hp → Prop, (∀ H', Nx H' → ∃ m', m' < m ∧ Wv (i + 1) m' H') ∧ ∀ x H', J.yld i H x H' → gT K (.nm w) x (L2.wipe σ [w]) H' fun σ2 H2 => L2.wipe σ2 [w] = L2.wipe σ [w] ∧
      (fun _ H Q => Q true H : TT) σ2 H2 fun b H3 => if b = true then tNew σ2 H3 fun y H4 => ∃ acc, H4 D = some (.lst acc) ∧ acc.length < sizeLine ∧ Nx (upd H4 D (.lst (acc ++ [y]))) else Nx H3) := by
  have dl : (rangeD 0 m).length = m := by unfold rangeD; rw [List.length_map, List.length_range]
  have liftC : ∀ {H : Hp}, (∀ x o, H1 x = some o → H x = some o) → src C H := fun g => S.step (fun a u r n => ⟨by
    rcases r with r | ⟨ob, r⟩
    · exact .inl (g _ _ r)
    · exact .inr ⟨ob, g _ _ r⟩, n⟩) hsrc
  have trk' : ∀ {H : Hp}, (∀ x o, H1 x = some o → H x = some o) → ∀ x, C x → H x ≠ none := fun g x hx e => by
    cases q : H1 x with
    | none => exact trk x hx q
    | some o => rw [g x o q] at e; cases e
  refine ⟨fun j mm H => ∃ rs : List Addr, mm = m - j ∧ j ≤ m ∧ rs.length = j ∧ rs.Nodup ∧ (∀ x o, H1 x = some o → H x = some o) ∧ H D = some (.lst (rs.map V.ref)) ∧ ∀ r ∈ rs, H1 r = none ∧ r ≠ D ∧ H r = some (.lst []),
    ⟨m, [], rfl, Nat.zero_le _, rfl, List.nodup_nil, upd_grow hD, upd_same, fun r hr => by cases hr⟩, ?_⟩
  rintro j mm H ⟨rs, rfl, hj, hl, nd, g, hd, hr⟩
  by_cases hlt : j < m
  · refine .inr ⟨S.go (liftC g) (by rw [dl]; exact hlt), fun H' => ∃ rs : List Addr, rs.length = j + 1 ∧ rs.Nodup ∧ (∀ x o, H1 x = some o → H' x = some o) ∧ H' D = some (.lst (rs.map V.ref)) ∧ ∀ r ∈ rs, H1 r = none ∧ r ≠ D ∧ H' r = some (.lst []),
      fun H' ⟨rs, h1, h2, h3, h4, h5⟩ => ⟨m - (j + 1), by omega, rs, rfl, hlt, h1, h2, h3, h4, h5⟩, fun x H' hy => ?_⟩
    obtain ⟨d, hdd⟩ : ∃ d, (rangeD 0 m)[j]? = some d := ⟨(rangeD 0 m)[j]'(by rw [dl]; exact hlt), List.getElem?_eq_getElem _⟩
    obtain ⟨g2, _⟩ := S.yld (liftC g) (trk' g) hdd hy
    refine ⟨by rw [wipe_set List.mem_cons_self, wipe_idem], (if_pos rfl).mpr fun a ha => ?_⟩
    have na : a ≠ D := fun e => by subst e; rw [g2 _ _ hd] at ha; cases ha
    have nr : a ∉ rs := fun e => by rw [g2 _ _ (hr a e).2.2] at ha; cases ha
    have n1 : H1 a = none := by
      cases q : H1 a with
      | none => rfl
      | some o => rw [g2 _ _ (g _ _ q)] at ha; cases ha
    refine ⟨rs.map V.ref, by rw [upd_ne (Ne.symm na)]; exact g2 _ _ hd, ?_, rs ++ [a], by rw [List.length_append, hl]; rfl, ?_, fun x o e => ?_, ?_, fun r hr' => ?_⟩
    · rw [List.length_map, hl]
      have : (1000 : Nat) < sizeLine := by decide
      omega
    · rw [List.nodup_append]
      exact ⟨nd, by simp, fun x hx y hy e => by
        rw [List.mem_singleton] at hy
        subst hy e
        exact nr hx⟩
    · have n2 : x ≠ D := fun z => by subst z; rw [hD] at e; cases e
      have n3 : x ≠ a := fun z => by subst z; rw [n1] at e; cases e
      rw [upd_ne n2, upd_ne n3]
      exact g2 _ _ (g _ _ e)
    · rw [upd_same]; simp
    · rcases List.mem_append.mp hr' with z | z
      · obtain ⟨h1, h2, h3⟩ := hr r z
        refine ⟨h1, h2, ?_⟩
        rw [upd_ne h2, upd_ne fun e => nr (by rw [← e]; exact z)]
        exact g2 _ _ h3
      · rw [List.mem_singleton] at z
        subst z
        exact ⟨n1, na, by rw [upd_ne na, upd_same]⟩
  · have e : j = m := by omega
    subst e
    exact .inl ⟨S.stop (liftC g) dl.symm, q rs H hl nd g hd hr⟩
/-- what the third statement and the rest are to reach -/
theorem rows_walk {Γ : Nat → List Rf.X → CR} {v i : Nat} {body : Ss} {D : Ends} {R : L2.St → Hp → Prop} {a : Addr} {rs : List Addr} {W1 W2 : Addr → Prop} {H1 H : Hp} {σ : L2.St} {sl2 sl3 : Sl} {xss yss : List (List Rf.D)} (hK : X.K = c.K) (nd : rs.Nodup) (nar : a ∉ rs) (fresh : ∀ x, (x = a ∨ x ∈ rs) → H1 x = none)
    (st : Stp W1 H1 W2 H) (sr : SR (c.rows a rs) W2 sl2 σ H) (nw : ∀ x, (x = a ∨ x ∈ rs) → ¬ W2 x) (hH : H a = some (.lst (rs.map V.ref))) (ra : RowsAt c.K H (un W2 (c.rows a rs).C0) rs xss) (hv : isData sl2 v = true) (hp : pinned sl2 i = true) (hl : v < sl2.length)
    (hw : rowsWalk (evalSs Γ body) v xss [] sl2 = some (yss, sl3))
    (q : ∀ W' σ' H', Stp W1 H1 W' H' → SR (c.rows a rs) W' sl3 σ' H' → (∀ x, (x = a ∨ x ∈ rs) → ¬ W' x) → H' a = some (.lst (rs.map V.ref)) → RowsAt c.K H' (un W' (c.rows a rs).C0) rs yss → D.nx σ' H') :
    tFor (iList X.K (tVar i)) (gName v) (fun D σ H => ∃ a rs r, tS (c.rowV a rs v r) W (evalSs Γ body) D σ H) D σ H := by
  have hp := pinned_of hp
  obtain ⟨u, hu, hpv⟩ := sr.slot i _ hp
  obtain rfl : u = .ref a := hpv
  refine ⟨_, hu, a, rfl, ⟨_, .of hH⟩, ?_⟩
  refine ⟨fun j mm σx Hx => ∃ W2 sl2 done todo, mm = rs.length - j ∧ j ≤ rs.length ∧ done.length = j ∧ Stp W1 H1 W2 Hx ∧ SR (c.rows a rs) W2 sl2 σx Hx ∧ (∀ x, (x = a ∨ x ∈ rs) → ¬ W2 x) ∧ Hx a = some (.lst (rs.map V.ref)) ∧ RowsAt c.K Hx (un W2 (c.rows a rs).C0) rs (done ++ todo) ∧ isData sl2 v = true ∧ v < sl2.length ∧ rowsWalk (evalSs Γ body) v todo done sl2 = some (yss, sl3),
    ⟨rs.length, W2, sl2, [], xss, rfl, Nat.zero_le _, rfl, st, sr, nw, hH, ra, hv, hl, hw⟩, ?_⟩
  rintro j mm σx Hx ⟨W3, slx, done, todo, rfl, hj, hdl, st3, sr3, nw3, hH3, ra3, hv3, hl3, hw3⟩
  have sq : SqL X.K Hx a (rs.map V.ref) := .of hH3
  by_cases hlt : j < rs.length
  · obtain ⟨r, hr⟩ : ∃ r, rs[j]? = some r := ⟨rs[j], List.getElem?_eq_getElem hlt⟩
    have hrm := List.mem_of_getElem? hr
    have lens := ra3.1
    cases todo with
    | nil => rw [List.append_nil] at lens; omega
    | cons xs todo =>
    have hx : (done ++ xs :: todo)[j]? = some xs := by rw [← hdl]; simp
    obtain ⟨vs, h1, h2⟩ := ra3.2 j r xs hr hx
    have hur : (rs.map V.ref)[j]? = some (.ref r) := by rw [List.getElem?_map, hr]; rfl
    unfold rowsWalk at hw3
    refine .inr ⟨⟨_, _, sq, hur⟩, fun σ' H' => ∃ W2 sl2 done todo, done.length = j + 1 ∧ Stp W1 H1 W2 H' ∧ SR (c.rows a rs) W2 sl2 σ' H' ∧ (∀ x, (x = a ∨ x ∈ rs) → ¬ W2 x) ∧ H' a = some (.lst (rs.map V.ref)) ∧ RowsAt c.K H' (un W2 (c.rows a rs).C0) rs (done ++ todo) ∧ isData sl2 v = true ∧ v < sl2.length ∧ rowsWalk (evalSs Γ body) v todo done sl2 = some (yss, sl3),
      fun σ' H' ⟨W2, sl2, done, todo, g1, g2, g3, g4, g5, g6, g7, g8, g9⟩ => ⟨rs.length - (j + 1), by omega, W2, sl2, done, todo, rfl, hlt, g1, g2, g3, g4, g5, g6, g7, g8, g9⟩, fun x H' hy => ?_⟩
    obtain ⟨eH, hy⟩ := hy
    rw [eH]
    obtain rfl : .ref r = x := Option.some.inj (hur.symm.trans (hy _ sq))
    refine ⟨a, rs, r, fun x => W3 x ∨ x = r, _, sr3.toV hrm (nw3 r (.inr hrm)) h1 h2 hv3 hl3, ?_⟩
    cases hb : evalSs Γ body (slx.set v (some (.cell false (.lst xs)))) with
    | stuck => rw [hb] at hw3; cases hw3
    | brk _ => rw [hb] at hw3; cases hw3
    | ret _ _ => rw [hb] at hw3; cases hw3
    | exc _ _ => rw [hb] at hw3; cases hw3
    | nx sl' =>
    rw [hb] at hw3
    dsimp only at hw3
    split at hw3
    · rename_i ys hys
      intro W' σ' H' stb srb
      obtain ⟨⟨us, e1, rus⟩, sr4⟩ := srb.ofV hrm hys
      have stn : Stp W1 H1 (fun x => W' x ∧ x ≠ r) H' := ((st3.more (fresh r (.inr hrm))).trans stb).less fun x z => z.1
      have nwn : ∀ x, (x = a ∨ x ∈ rs) → ¬ (W' x ∧ x ≠ r) := fun x hx z => by
        have there : Hx x ≠ none := sr3.trk x (.inr (.inr hx))
        rcases stb.free x z.1 with (y | y) | y
        · exact nw3 x hx y
        · exact z.2 y
        · exact there y
      have nar' : a ≠ r := fun e => nar (by rw [e]; exact hrm)
      have kept : ∀ x, (x = a ∨ x ∈ rs) → x ≠ r → ∀ o, Hx x = some o → H' x = some o := fun x hx ne o e => stb.keep x o e fun z => z.elim (nw3 x hx) ne
      have lf : ∀ x u, Rd Hx x u → ¬ un W3 (c.rows a rs).C0 x → Rd H' x u ∧ ¬ un (fun x => W' x ∧ x ≠ r) (c.rows a rs).C0 x := fun x u q n => by
        have n1 : ¬ un (fun x => W3 x ∨ x = r) (c.rows a rs).C0 x := fun z => by
          rcases z with (z | z) | z
          · exact n (.inl z)
          · subst z; exact n (.inr (.inr (.inr hrm)))
          · exact n (.inr z)
        obtain ⟨q1, n2⟩ := Rd.keep (C0 := (c.rows a rs).C0) stb q n1
        exact ⟨q1, fun z => n2 (z.imp (·.1) id)⟩
      refine ⟨_, _, done ++ [ys], todo, by rw [List.length_append, hdl]; rfl, stn, sr4, nwn, kept a (.inl rfl) nar' _ hH3, ?_, ?_, ?_, hw3⟩
      · have := ra3.put (H' := H') (ys := ys) lf nd hr (fun r' hr' ne => kept r' (.inr hr') ne) e1 rus
        have e2 : (done ++ xs :: todo).set j ys = done ++ [ys] ++ todo := by
          rw [← hdl, List.set_append_right _ _ (Nat.le_refl _)]; simp
        rw [e2] at this
        exact this
      · unfold isData
        rw [List.getElem?_set_self (List.getElem?_eq_some_iff.mp hys).1]
      · rw [List.length_set]; exact (List.getElem?_eq_some_iff.mp hys).1
    · cases hw3
  · have e : j = rs.length := by omega
    subst e
    have lens := ra3.1
    rw [List.length_append, hdl] at lens
    obtain rfl : todo = [] := List.eq_nil_of_length_eq_zero (by omega)
    obtain ⟨rfl, rfl⟩ := Prod.mk.inj (Option.some.inj (show some (done, slx) = some (yss, sl3) from hw3))
    rw [List.append_nil] at ra3
    exact .inl ⟨⟨_, sq, by rw [List.length_map]; exact Nat.le_refl _⟩, q W3 σx Hx st3 sr3 nw3 hH3 ra3⟩
/-- the rows are filled -/
theorem rows_fill {Γ : Nat → List Rf.X → CR} {i : Nat} {t : T} {k e : L} {D : Ends} {a : Addr} {rs : List Addr} {W1 W2 : Addr → Prop} {H1 H : Hp} {σ : L2.St} {slx slF : Sl} {xssF : List (List Rf.D)} {it : I} {ds : List Rf.D} {sl1 : Sl} {mm : Nat} (hK : X.K = c.K) (nd : rs.Nodup) (nar : a ∉ rs) (fresh : ∀ x, (x = a ∨ x ∈ rs) → H1 x = none)
    (st : Stp W1 H1 W2 H) (sr : SR (c.rows a rs) W2 slx σ H) (nw : ∀ x, (x = a ∨ x ∈ rs) → ¬ W2 x) (hH : H a = some (.lst (rs.map V.ref))) (ra : RowsAt c.K H (un W2 (c.rows a rs).C0) rs (List.replicate mm [])) (hit : evalI Γ it slx = .ok ds sl1)
    (hw : rowsFill (fillT Γ i t k e) ds (List.replicate mm []) sl1 = some (xssF, slF))
    (q : ∀ W' σ' H', Stp W1 H1 W' H' → SR (c.rows a rs) W' slF σ' H' → (∀ x, (x = a ∨ x ∈ rs) → ¬ W' x) → H' a = some (.lst (rs.map V.ref)) → RowsAt c.K H' (un W' (c.rows a rs).C0) rs xssF → D.nx σ' H') :
    tFor (fun σ H R => ∃ a rs, tI (c.rows a rs) W (evalI Γ it) σ H R) (gT c.K t) (fun D σ H => tBM X.K "list" rAppend (tOp (rIxL X.K) (tVar i) fun σ H Q => ∃ a rs, tM (c.rows a rs) W (evalE Γ k) (rP c.K) σ H Q) (tCons (fun σ H Q => ∃ a rs, tM (c.rows a rs) W (evalE Γ e) (rP c.K) σ H Q) tNil) σ H fun _ H' => D.nx σ H') D σ H := by
  refine ⟨a, rs, W2, slx, sr, ?_⟩
  rw [hit]
  intro W3 H3 st3 sr3 J src S hsrc
  have step : ∀ {Wp Wn : Addr → Prop} {Hp' Hn : Hp}, Stp Wp Hp' Wn Hn → (∀ x, (x = a ∨ x ∈ rs) → Hp' x ≠ none) → (∀ x, (x = a ∨ x ∈ rs) → ¬ Wp x) → (∀ x, (x = a ∨ x ∈ rs) → ¬ Wn x) ∧ ∀ x, (x = a ∨ x ∈ rs) → ∀ o, Hp' x = some o → Hn x = some o := fun {Wp Wn Hp' Hn} s tr nw =>
    ⟨fun x hx z => (s.free x z).elim (nw x hx) (tr x hx), fun x hx o eo => s.keep x o eo (nw x hx)⟩
  obtain ⟨nw3, kp3⟩ := step st3 (fun x hx => sr.trk x (.inr (.inr hx))) nw
  refine ⟨fun j m σx Hx => ∃ W2 sl2 xss, m = ds.length - j ∧ j ≤ ds.length ∧ Stp W1 H1 W2 Hx ∧ SR (c.rows a rs) W2 sl2 σx Hx ∧ (∀ x, (x = a ∨ x ∈ rs) → ¬ W2 x) ∧ Hx a = some (.lst (rs.map V.ref)) ∧ RowsAt c.K Hx (un W2 (c.rows a rs).C0) rs xss ∧ src (un W2 (c.rows a rs).C0) Hx ∧ rowsFill (fillT Γ i t k e) (ds.drop j) xss sl2 = some (xssF, slF),
    ⟨ds.length, W3, sl1, _, by simp, Nat.zero_le _, st.trans st3, sr3, nw3, kp3 a (.inl rfl) _ hH, ra.keep (fun x u q n => Rd.keep (C0 := (c.rows a rs).C0) st3 q n) fun r hr => kp3 r (.inr hr), hsrc, hw⟩, ?_⟩
  rintro j m σx Hx ⟨W4, sl2, xss, rfl, hj, st4, sr4, nw4, hH4, ra4, hs4, hw4⟩
  by_cases hlt : j < ds.length
  · obtain ⟨d, hd⟩ : ∃ d, ds[j]? = some d := ⟨ds[j], List.getElem?_eq_getElem hlt⟩
    have hdrop : ds.drop j = d :: ds.drop (j + 1) := by
      obtain ⟨h1, h2⟩ := List.getElem?_eq_some_iff.mp hd
      rw [← h2]; exact List.drop_eq_getElem_cons h1
    rw [hdrop] at hw4
    unfold rowsFill at hw4
    refine .inr ⟨S.go hs4 hlt, fun σ' H' => ∃ W2 sl2 xss, Stp W1 H1 W2 H' ∧ SR (c.rows a rs) W2 sl2 σ' H' ∧ (∀ x, (x = a ∨ x ∈ rs) → ¬ W2 x) ∧ H' a = some (.lst (rs.map V.ref)) ∧ RowsAt c.K H' (un W2 (c.rows a rs).C0) rs xss ∧ src (un W2 (c.rows a rs).C0) H' ∧ rowsFill (fillT Γ i t k e) (ds.drop (j + 1)) xss sl2 = some (xssF, slF),
      fun σ' H' ⟨W2, sl2, xss, g1, g2, g3, g4, g5, g6, g7⟩ => ⟨ds.length - (j + 1), by omega, W2, sl2, xss, rfl, hlt, g1, g2, g3, g4, g5, g6, g7⟩, fun x H5 hy => ?_⟩
    obtain ⟨g, rx⟩ := S.yld hs4 sr4.trk hd hy
    have sr5 := sr4.grow g
    have st45 : Stp W4 Hx W4 H5 := .grow g
    split at hw4
    · rename_i kk y sl' hturn
      obtain ⟨xss', hra, hw4⟩ := Option.bind_eq_some_iff.mp hw4
      unfold fillT at hturn
      split at hturn
      · cases hturn
      · rename_i slA hA
        split at hturn
        · rename_i hpin
          refine gT_of (c := c.rows a rs) sr5 rx hA fun vs sr6 => ?_
          have hpin := pinned_of hpin
          obtain ⟨u, hu, hpv⟩ := sr6.slot i _ hpin
          obtain rfl : u = .ref a := hpv
          refine ⟨_, hu, a, rs, W4, slA, sr6, ?_⟩
          cases hk : evalE Γ k slA with
          | stuck => rw [hk] at hturn; cases hturn
          | exc _ _ => rw [hk] at hturn; cases hturn
          | ok kd slB =>
          rw [hk] at hturn
          intro W6 H6 st6 sr7 kv rk
          have hturn : ((evalE Γ e slB).bind fun z sl => R.ok (kd, z) sl) = .ok (.int kk, y) sl' := hturn
          cases he : evalE Γ e slB with
          | stuck => rw [he] at hturn; cases hturn
          | exc _ _ => rw [he] at hturn; cases hturn
          | ok yd slC =>
          rw [he] at hturn
          cases hturn
          obtain rfl := (Rt.rp (show Rp c.K H6 (un W6 (c.rows a rs).C0) kv (.int kk) from rk)).int
          have st46 := st45.trans st6
          obtain ⟨nw6, kp6⟩ := step st46 (fun x hx => sr4.trk x (.inr (.inr hx))) nw4
          unfold rowApp at hra
          obtain ⟨jj, hjj, hra⟩ := Option.bind_eq_some_iff.mp hra
          obtain ⟨xs, hxs, hra⟩ := Option.bind_eq_some_iff.mp hra
          split at hra
          · rename_i hsz
            obtain rfl := Option.some.inj hra
            have hjl : jj < rs.length := by rw [ra4.1]; exact (List.getElem?_eq_some_iff.mp hxs).1
            obtain ⟨r, hr⟩ : ∃ r, rs[jj]? = some r := ⟨rs[jj], List.getElem?_eq_getElem hjl⟩
            have hrm := List.mem_of_getElem? hr
            have nar' : a ≠ r := fun z => nar (by rw [z]; exact hrm)
            have hH6 := kp6 a (.inl rfl) _ hH4
            refine ⟨a, rs.map V.ref, kk, .ref r, rfl, rfl, .of hH6, ?_, ?_⟩
            · show (place (rs.map V.ref).length kk).bind _ = _
              rw [List.length_map, ra4.1, hjj]
              show (rs.map V.ref)[jj]? = _
              rw [List.getElem?_map, hr]; rfl
            · have ra6 : RowsAt c.K H6 (un W6 (c.rows a rs).C0) rs xss := ra4.keep (fun x u q n => Rd.keep (C0 := (c.rows a rs).C0) st46 q n) fun r' hr' => kp6 r' (.inr hr')
              obtain ⟨us, e1, _⟩ := ra6.2 jj r xs hr hxs
              refine ⟨.inl ⟨rfl, us, .of e1⟩, a, rs, W6, slB, sr7, ?_⟩
              rw [he]
              intro W7 H7 st7 sr8 yv ry
              have ry : Rp c.K H7 (un W7 (c.rows a rs).C0) yv y := ry
              have st47 := st46.trans st7
              obtain ⟨nw7, kp7⟩ := step st47 (fun x hx => sr4.trk x (.inr (.inr hx))) nw4
              have ra7 : RowsAt c.K H7 (un W7 (c.rows a rs).C0) rs xss := ra4.keep (fun x u q n => Rd.keep (C0 := (c.rows a rs).C0) st47 q n) fun r' hr' => kp7 r' (.inr hr')
              obtain ⟨us7, e7, r7⟩ := ra7.2 jj r xs hr hxs
              have cr : un W7 (c.rows a rs).C0 r := .inr (.inr (.inr hrm))
              have lf : ∀ x u, Rd H7 x u → ¬ un W7 (c.rows a rs).C0 x → Rd (upd H7 r (.lst (us7 ++ [yv]))) x u ∧ ¬ un W7 (c.rows a rs).C0 x := fun x u q n => by
                have nd' : x ≠ r := fun z => n (by rw [z]; exact cr)
                refine ⟨?_, n⟩
                rcases q with q | ⟨ob, q⟩
                · exact .inl (by rw [upd_ne nd']; exact q)
                · exact .inr ⟨ob, by rw [upd_ne nd']; exact q⟩
              refine ⟨r, us7, yv, rfl, rfl, e7, by rw [r7.length]; exact hsz, W7, _, _, ⟨fun x o eo nx => ?_, fun x z => (st4.trans st47).free x z⟩, sr8.foreign (.inr (.inr hrm)) (nw7 r (.inr hrm)), nw7, ?_, ?_, ?_, hw4⟩
              · rw [upd_ne fun z => by rw [z, fresh r (.inr hrm)] at eo; cases eo]
                exact (st4.trans st47).keep x o eo nx
              · rw [upd_ne nar']; exact kp7 a (.inl rfl) _ hH4
              · exact ra7.put lf nd hr (fun r' hr' ne o eo => by rw [upd_ne ne]; exact eo) upd_same ((r7.append (.cons ry .nil)).mono lf)
              · exact S.step lf (S.step (fun x u q n => Rd.keep (C0 := (c.rows a rs).C0) st47 q n) hs4)
          · cases hra
        · cases hturn
    · cases hw4
  · have e0 : j = ds.length := by omega
    subst e0
    rw [List.drop_length] at hw4
    obtain ⟨rfl, rfl⟩ := Prod.mk.inj (Option.some.inj (show some (xss, sl2) = some (xssF, slF) from hw4))
    exact .inl ⟨S.stop hs4 rfl, q W4 σx Hx st4 sr4 nw4 hH4 ra4⟩
/-- the three statements, as the evaluator's block -/
theorem sts_rows (G : GoodS tb n c N sc X W) (hk0 : sc.kind = .function) {y wx vx : Str} {py pw pl pr pc pos spos p2 psub apos cpos pexp pos2 pv p3 pos3 : Pos} {en kx ex : Expr} {tg iter : Expr} {scope : Scope} {b3 rest : List Stmt} {i w v : Nat} {nn k e : L} {t : T} {it : I} {body r : Ss}
    (hy : okNm N sc i (.Name y py) = true) (hyl : sc.names.lookup y = some .local) (hln : (py.line == pos.line) = true) (hnot : (scope.names.any fun (n, k) => n == y && (k == .local || k == .cell)) = false)
    (hrg : glB sc "range" = true) (hsn : starB en = false) (hn : PE X en (tM c W (evalE (run tb.prog n) nn) (rP c.K))) (hblk : blkC N sc scope (ownP N [w]) = true) (hwt : okT N scope (.nm w) (.Name wx pw) = true)
    (hn2 : nameB N sc i y = true) (ht : okT N sc t tg = true) (hit : ∀ a rs, PI X tg iter (tI (c.rows a rs) W (evalI (run tb.prog n) it))) (hset : ∀ x, foldedSetIterable iter X.env x = pure x) (hsl : sliceB kx = false)
    (hk : ∀ a rs, PE X kx (tM (c.rows a rs) W (evalE (run tb.prog n) k) (rP c.K))) (hse : starB ex = false) (he : ∀ a rs, PE X ex (tM (c.rows a rs) W (evalE (run tb.prog n) e) (rP c.K))) (hl : linesB apos cpos = true)
    (hv : okNm N sc v (.Name vx pv) = true) (hb : ∀ a rs r, PSs X b3 (tS (c.rowV a rs v r) W (evalSs (run tb.prog n) body))) (hr : PSs X rest (tS c W (evalSs (run tb.prog n) r))) :
    PSs X (.Assign [.Name y py] (.ListComp (.List [] pl) [⟨.Name wx pw, .Call (.Name "range" pr) [en] [] pc, [], 0⟩] scope pos) spos ::
      .For tg iter [.Expr (.Call (.Attribute (.Subscript (.Name y p2) kx psub) "append" apos) [ex] [] cpos) pexp] [] pos2 ::
      .For (.Name vx pv) (.Name y p3) b3 [] pos3 :: rest) (tS c W (evalSs (run tb.prog n) (.cons (.rows i w nn t it k e v body) r))) := by
  have hKK := G.G.hK
  obtain ⟨y', py', ey, n1, n2⟩ := okNm_name hy
  cases ey
  have ok : BlkOk X.N X.env.scope scope (ownP N [w]) := by rw [G.G.hN, G.G.hsc]; exact blkOk_by hblk
  have h1 := ps_setLc (i := i) (py := py) (spos := spos) (tt := fun _ H Q => Q true H) (te := tNew) G.G.calm G.store.nd (by rw [G.store.hN]; exact n1) (by rw [G.G.hsc]; exact hyl) (sw_true (by rw [G.G.hsc]; exact hk0) (by rw [G.G.hsc]; exact hyl) hln hnot)
    (snd_range1 (tg := .Name wx pw) (p := pr) (pos := pc) G.G hrg hsn hn) ok (fun s H C cl fp => by
      have := snd_tgt (G.G.store (s := s) (H := H) (scope := scope) (C := C) (cl := cl) (fp := fp)) hwt
      rw [show (X.blk s H scope (compEnvC scope cl C X.env) fp).K = c.K from hKK] at this
      exact this) (fun s H C cl fp => pts_nil) (fun s H C cl fp => pe_new (p := pl)) (fun x => rfl) (pos := pos)
  rw [ownP_snd] at h1
  have pg := snd_tgt G.store ht
  rw [hKK] at pg
  have hpl : PlainIx kx := fun o i => by cases kx <;> first | rfl | (cases (show true = false from hsl))
  have app := ps_expr (pos := pexp) (pe_bm (X := X) (name := "append") (T := "list") PySem.F.plainAttrs_list PySem.F.slot_list_append PySem.F.type_list_append mt_append
    (pe_ix (pos := psub) ix_list (pe_name G.G hn2 (p := p2)) (⟨fun pins s σ H Q I ⟨a, rs, q⟩ => (hk a rs).run pins s σ H Q I q⟩ : PE X kx (fun σ H Q => ∃ a rs, tM (c.rows a rs) W (evalE (run tb.prog n) k) (rP c.K) σ H Q)) hpl)
    (pa_cons (⟨fun pins s σ H Q I ⟨a, rs, q⟩ => (he a rs).run pins s σ H Q I q⟩ : PE X ex (fun σ H Q => ∃ a rs, tM (c.rows a rs) W (evalE (run tb.prog n) e) (rP c.K) σ H Q)) pa_nil (starEach_of hse)) (by rfl) (few1 hse) hl (starEach_of hse) (by rfl)) (by rfl)
  have h2 := ps_for (pos := pos2) G.own G.G.calm (⟨fun pins s σ H R I ⟨a, rs, q⟩ => (hit a rs).run pins s σ H R I q⟩ : PI X tg iter (fun σ H R => ∃ a rs, tI (c.rows a rs) W (evalI (run tb.prog n) it) σ H R)) pg (pss_one app) hset
  have pgv := pg_nm G.store hv
  have h3 := ps_for (pos := pos3) G.own G.G.calm (pi_list (tg := .Name vx pv) (pe_name G.G hn2 (p := p3))) pgv (⟨fun pins s σ H D I ⟨a, rs, r, q⟩ => (hb a rs r).run pins s σ H D I q⟩ : PSs X b3 (fun D σ H => ∃ a rs r, tS (c.rowV a rs v r) W (evalSs (run tb.prog n) body) D σ H)) (fun x => rfl)
  refine PSs.imp (pss_cons h1 (pss_cons h2 (pss_cons h3 hr))) fun D σ H ⟨W0, sl, sr, q⟩ => ?_
  -- the evaluator's way
  have q : WS c W D W0 H ((evalS (run tb.prog n) (.rows i w nn t it k e v body) sl).seq fun sl => evalSs (run tb.prog n) r sl) := by
    simp only [evalSs] at q ⊢
    exact q
  have q := evalS_rows (q := fun f => WS c W D W0 H (f.seq fun sl => evalSs (run tb.prog n) r sl)) q fun f hf ef => by subst ef; exact hf
  refine ⟨W0, sl, sr, ?_⟩
  cases hne : evalE (run tb.prog n) nn sl with
  | stuck => rw [hne] at q; exact q.elim
  | exc e' sl1 =>
    rw [hne] at q
    simp only [evalI]
    rw [hne]
    exact fun W1 H1 st sr1 => q W1 σ H1 st sr1
  | ok x sl1 =>
    rw [hne] at q
    rw [R.run_ok] at q
    cases x with
    | int m =>
      have q : WS c W D W0 H ((rowsRest (run tb.prog n) i t it k e v body m sl1).seq fun sl => evalSs (run tb.prog n) r sl) := q
      unfold rowsRest at q
      split at q
      · rename_i hc
        simp only [Bool.and_eq_true, decide_eq_true_eq] at hc
        obtain ⟨⟨⟨⟨⟨⟨⟨c1, c2⟩, c3⟩, c4⟩, c5⟩, c6⟩, c7⟩, c8⟩ := hc
        split at q
        · rename_i ds sl2 hds
          split at q
          · rename_i xssF slF hfill
            split at q
            · rename_i hc2
              simp only [Bool.and_eq_true, decide_eq_true_eq] at hc2
              obtain ⟨⟨d1, d2⟩, d3⟩ := hc2
              split at q
              · rename_i yss sl3 hwalk
                split at q
                · rename_i hc3
                  simp only [Bool.and_eq_true] at hc3
                  have q : WS c W D W0 H (evalSs (run tb.prog n) r (sl3.set i (some (.d (.list (yss.map .list)))))) := q
                  have ei : evalI (run tb.prog n) (.range1 nn) sl = .ok (rangeD 0 m.toNat) sl1 := by
                    simp only [evalI]
                    rw [hne]
                    show (if smallI m then R.ok (rangeD 0 m.toNat) sl1 else .stuck) = _
                    rw [if_pos c1]
                  rw [ei]
                  intro W1 H1 st1 sr1 J src S hsrc A hA
                  refine mk_rows (w := w) (σ := σ) S hsrc sr1.trk (by omega) hA fun rs H2 hrl nd g hHA hrs => ?_
                  have nar : A ∉ rs := fun z => (hrs A z).2.1 rfl
                  have fresh : ∀ x, (x = A ∨ x ∈ rs) → H1 x = none := fun x hx => hx.elim (fun z => by rw [z]; exact hA) fun z => (hrs x z).1
                  have there : ∀ x, (x = A ∨ x ∈ rs) → H2 x ≠ none := fun x hx e => by
                    rcases hx with z | z
                    · rw [z, hHA] at e; cases e
                    · rw [(hrs x z).2.2] at e; cases e
                  have sr2 := (sr1.toRows (a := A) (rs := rs) fresh g there c6 (noPins_of c3)).forget v
                  have nw : ∀ x, (x = A ∨ x ∈ rs) → ¬ W1 x := fun x hx z => sr1.trk x (.inl z) (fresh x hx)
                  have nc : ∀ x, (x = A ∨ x ∈ rs) → ¬ c.C0 x := fun x hx z => sr1.trk x (.inr z) (fresh x hx)
                  have ra0 : RowsAt c.K H2 (un W1 (c.rows A rs).C0) rs (List.replicate m.toNat []) := by
                    refine ⟨by rw [List.length_replicate]; exact hrl, fun j r xs e1 e2 => ?_⟩
                    rw [List.getElem?_replicate] at e2
                    split at e2
                    · obtain rfl := Option.some.inj e2
                      exact ⟨[], (hrs r (List.mem_of_getElem? e1)).2.2, .nil⟩
                    · cases e2
                  refine rows_fill (c := c) hKK nd nar fresh (Stp.grow g) sr2 nw hHA ra0 hds hfill fun W4 σ4 H4 st4 sr4 nw4 hH4 ra4 => ?_
                  refine rows_walk (R := fun _ _ => True) (c := c) hKK nd nar fresh st4 sr4 nw4 hH4 ra4 d1 d2 d3 hwalk fun W5 σ5 H5 st5 sr5 nw5 hH5 ra5 => ?_
                  refine ⟨W5, _, sr5.fromRows (pinned_of hc3.1) (fun j hj z => ?_) nw5 nc hH5 ra5, q.step (st1.trans st5)⟩
                  have := noPins_of hc3.2 j
                  rw [List.getElem?_set_ne (Ne.symm hj)] at this
                  exact this z
                · exact q.elim
              · exact q.elim
            · exact q.elim
          · exact q.elim
        · exact q.elim
      · exact q.elim
    | none => exact q.elim
    | bool _ => exact q.elim
    | str _ => exact q.elim
    | list _ => exact q.elim
    | tuple _ => exact q.elim
    | dict _ => exact q.elim
end
end Rf
end
section
set_option linter.all false
set_option maxRecDepth 100000
set_option maxHeartbeats 1000000
namespace Rf
open PySem PySem.Spec PyProof.Rows L2
section
variable {tb : Tab} {n : Nat} {c : Cfg} {N : List Str} {sc : Scope} {X : Cx} {W : WX} {Γ : Nat → List Rf.X → CR}
theorem getLast_at {α : Type} {xs : List α} {y : α} (h : xs.getLast? = some y) : xs[xs.length - 1]? = some y := by
  rw [← List.getLast?_eq_getElem?]; exact h
theorem snd_pop (G : Good tb n c N sc X W) {x : Str} {i : Nat} {p apos cpos : Pos} (hn : nameB N sc i x = true) (hl : linesB apos cpos = true) : PE X (.Call (.Attribute (.Name x p) "pop" apos) [] [] cpos) (tM c W (evalE Γ (.pop i)) (rP c.K)) := by
  refine PE.imp (pe_bm0 (X := X) (name := "pop") (T := "list") PySem.F.plainAttrs_list PySem.F.slot_list_pop PySem.F.type_list_pop mt_pop (pe_name G hn) (by rfl) hl) fun σ H Q ⟨W0, sl, sr, q⟩ => ?_
  simp only [evalE] at q
  split at q
  · rename_i own ds hsl
    split at q
    · rename_i d hd
      obtain ⟨a, xs, e1, ea, ra⟩ := sr.lst hsl
      have hd' : ds[ds.length - 1]? = some d := getLast_at hd
      obtain ⟨v, hv, rv⟩ := ra.get hd'
      obtain ⟨st, sr1⟩ := sr.write (o := .lst xs.dropLast) (k' := .lst ds.dropLast) hsl e1 fun hs => ⟨_, upd_same, ra.dropLast.mono hs⟩
      have na : ∀ b u, Rd H b u → ¬ un W0 c.C0 b → Rd (upd H a (.lst xs.dropLast)) b u ∧ ¬ un W0 c.C0 b := fun b u r nb => by
        obtain ⟨v', e3, a', ea', wa', _⟩ := sr.slot i _ hsl
        rw [e1] at e3
        cases (Option.some.inj (Option.some.inj e3))
        cases ea'
        have ne : b ≠ a := fun z => nb (.inl (by rw [z]; exact wa'))
        refine ⟨?_, nb⟩
        rcases r with r | ⟨o, r⟩
        · exact .inl (by rw [upd_ne ne]; exact r)
        · exact .inr ⟨o, by rw [upd_ne ne]; exact r⟩
      exact ⟨_, e1, .inl ⟨rfl, xs, .of ea⟩, a, xs, v, rfl, rfl, ea, by rw [ra.length]; exact hv, q W0 _ st sr1 v (rv.mono na)⟩
    · exact q.elim
  · exact q.elim
theorem place_seq {n : Nat} {k : Int} {j : Nat} (h : place n k = some j) : seqIndex? k n = some j := (ixN_seq (show ixN n k = some j from h)).1
theorem snd_popAt (G : Good tb n c N sc X W) {x : Str} {e : Expr} {i : Nat} {l : L} {p apos cpos : Pos} (hn : nameB N sc i x = true) (hl : linesB apos cpos = true) (hs : starB e = false) (he : PE X e (tM c W (evalE Γ l) (rP c.K))) :
    PE X (.Call (.Attribute (.Name x p) "pop" apos) [e] [] cpos) (tM c W (evalE Γ (.popAt i l)) (rP c.K)) := by
  refine PE.imp (pe_bm (X := X) (name := "pop") (T := "list") PySem.F.plainAttrs_list PySem.F.slot_list_pop PySem.F.type_list_pop mt_popAt (pe_name G hn) (pa_cons he pa_nil (starEach_of hs)) (by rfl) (few1 hs) hl (starEach_of hs) (by rfl)) fun σ H Q ⟨W0, sl, sr, q⟩ => ?_
  simp only [evalE] at q
  split at q
  · rename_i hi
    obtain ⟨b0, ds0, hsl0⟩ := isLst_of hi
    obtain ⟨a, xs0, e1, ea0, _⟩ := sr.lst hsl0
    refine ⟨_, e1, .inl ⟨rfl, xs0, .of ea0⟩, W0, sl, sr, q.bind.mono fun d W1 sl1 H1 st sr1 q v rv => ?_⟩
    split at q
    · rename_i own ds k hsl
      split at q
      · rename_i hk
        simp only [Bool.and_eq_true, decide_eq_true_eq] at hk
        split at q
        · rename_i j hj
          split at q
          · rename_i y hy
            obtain ⟨a2, xs, e2, ea, ra⟩ := sr1.lst hsl
            cases (Option.some.inj (Option.some.inj (e1.symm.trans e2)))
            obtain rfl := (Rt.rp (show Rp c.K H1 (un W1 c.C0) v (.int _) from rv)).int
            obtain ⟨u, hu, ru⟩ := ra.get hy
            obtain ⟨st2, sr2⟩ := sr1.write (o := .lst (xs.eraseIdx j)) (k' := .lst (ds.eraseIdx j)) hsl e2 fun hs => ⟨_, upd_same, (ra.eraseIdx j).mono hs⟩
            have na : ∀ b w, Rd H1 b w → ¬ un W1 c.C0 b → Rd (upd H1 a (.lst (xs.eraseIdx j))) b w ∧ ¬ un W1 c.C0 b := fun b w r nb => by
              obtain ⟨v', e3, a', ea', wa', _⟩ := sr1.slot i _ hsl
              rw [e1] at e3
              cases (Option.some.inj (Option.some.inj e3))
              cases ea'
              have ne : b ≠ a := fun z => nb (.inl (by rw [z]; exact wa'))
              refine ⟨?_, nb⟩
              rcases r with r | ⟨o, r⟩
              · exact .inl (by rw [upd_ne ne]; exact r)
              · exact .inr ⟨o, by rw [upd_ne ne]; exact r⟩
            exact ⟨a, xs, _, j, u, rfl, rfl, ea, hk.1, hk.2, by rw [ra.length]; exact place_seq hj, hu, q W1 _ st2 sr2 u (ru.mono na)⟩
          · exact q.elim
        · exact q.elim
      · exact q.elim
    · exact q.elim
  · exact q.elim
theorem cut_rp {K : PySem.W.Frag} {H : Hp} {C : Addr → Prop} {xs : List V} {ds : List D} (r : RpAll K H C xs ds) (lo hi : Option Int) : RpAll K H C (cutV xs lo hi) (cut ds lo hi) := by
  have e : ∀ (n d : Nat) (o : Option Int), HT.sIx n d o = clip n d o := fun n d o => by cases o <;> rfl
  unfold cutV cut
  rw [e, e, r.length]
  exact (r.drop _).take _
def rSlD (X : Cx) : V → Option Int → Option Int → Hp → VK → Prop := fun x lo hi H Q => ∃ C d dz, (∀ a, C a → H a ≠ none) ∧ Rt X.K H C x d ∧ sCut d lo hi = some dz ∧ Made X.K C H dz Q
theorem sl_data : SlR X (rSlD X) := by
  intro pins s σ H x v vl vu lo hi sl Q I rx hs pl pu h
  obtain ⟨C, d, dz, hC, hx, hz, q⟩ := h
  unfold sCut at hz
  split at hz
  · obtain rfl := Option.some.inj hz
    obtain ⟨a, xs, rfl, sa, ra⟩ := hx.list
    exact sl_list pins s σ H _ v vl vu lo hi sl Q I rx hs pl pu ⟨a, xs, rfl, sa, q.lst hC (cut_rp ra lo hi)⟩
  · obtain rfl := Option.some.inj hz
    obtain ⟨a, xs, rfl, sa, ra, pa⟩ := hx.tuple
    refine sl_tupA pins s σ H _ v vl vu lo hi sl Q I rx hs pl pu ⟨a, xs, rfl, sa, fun ⟨w1, w2⟩ => ?_, fun _ => q.tup hC (cut_rp ra lo hi)⟩
    have e : ∀ (n d : Nat) (o : Option Int), HT.sIx n d o = clip n d o := fun n d o => by cases o <;> rfl
    rw [e, ra.length] at w1
    rw [e, ra.length] at w2
    refine q.same ?_
    unfold cut
    rw [w1, w2, List.drop_zero, Nat.sub_zero, List.take_length]
    exact pa
  · obtain rfl := Option.some.inj hz
    obtain ⟨rfl, hl⟩ := hx.str
    rename_i z
    have e : ∀ (n d : Nat) (o : Option Int), HT.sIx n d o = clip n d o := fun n d o => by cases o <;> rfl
    have ez : cutS z lo hi = ⟨(cut z.cps.toList lo hi).toArray⟩ := by
      unfold cutS cut
      rw [e, e]
      show (⟨_⟩ : Str) = _
      rw [show z.length = z.cps.toList.length from (Array.length_toList).symm]
    refine sl_str pins s σ H _ v vl vu lo hi sl Q I rx hs pl pu ⟨z, rfl, hl, ?_⟩
    rw [ez]
    exact q.same (.str _ (by rw [← ez]; exact Nat.le_trans (cutS_length z lo hi) hl))
  · cases hz
/-- a slice's ends -/
def tOi (c : Cfg) (Wx : WX) (m : Sl → R (Option Int)) : TO := fun σ H Q => ∃ W sl, SR c W sl σ H ∧ WP c Wx σ W H (m sl) fun o W' _ H' => Q o H'
theorem PO.imp {X : Cx} {e : Option Expr} {t t' : TO} (h : PO X e t) (f : ∀ σ H Q, t' σ H Q → t σ H Q) : PO X e t' := ⟨fun pins s σ H Q I q => h.run pins s σ H Q I (f _ _ _ q)⟩
theorem po_n : PO X none (tOi c W (evalOl Γ .none)) := PO.imp po_none fun σ H Q ⟨W0, sl, sr, q⟩ => by
  simp only [evalOl] at q
  exact q.now sr
theorem po_s {e : Expr} {l : L} (he : PE X e (tM c W (evalE Γ l) (rP c.K))) : PO X (some e) (tOi c W (evalOl Γ (.some l))) := PO.imp (po_some he) fun σ H Q ⟨W0, sl, sr, q⟩ => by
  simp only [evalOl] at q
  refine ⟨W0, sl, sr, q.bind.mono fun d W1 sl1 H1 st sr1 q v rv => ?_⟩
  split at q
  · exact ⟨_, (Rt.rp (show Rp c.K H1 (un W1 c.C0) v (.int _) from rv)).int, q.now sr1⟩
  · exact q.elim
theorem snd_slice (hK : X.K = c.K) {e : Expr} {lo hi : Option Expr} {p2 pos : Pos} {z : Z} {ol oh : Ol} (he : PE X e (tM c W (evalZ Γ z) (rZ c.K))) (hl : PO X lo (tOi c W (evalOl Γ ol))) (hh : PO X hi (tOi c W (evalOl Γ oh))) :
    PE X (.Subscript e (.Slice lo hi none p2) pos) (tM c W (evalE Γ (.slice z ol oh)) (rP c.K)) := by
  refine PE.imp (pe_slice sl_data he hl hh) fun σ H Q ⟨W0, sl, sr, q⟩ => ?_
  simp only [evalE] at q
  refine ⟨W0, sl, sr, q.bind.mono fun zx W1 sl1 H1 st1 sr1 q v rv => ⟨W1, sl1, sr1, q.bind.mono fun l W2 sl2 H2 st2 sr2 q => ⟨W2, sl2, sr2, q.bind.mono fun h W3 sl3 H3 st3 sr3 q => ?_⟩⟩⟩
  obtain ⟨dz, hz, q⟩ := q.of
  obtain ⟨d, hd, hz⟩ := Option.bind_eq_some_iff.mp (show (zD sl3 zx).bind _ = some dz from hz)
  refine ⟨un W3 c.C0, d, dz, sr3.trk, ?_, hz, ?_⟩
  · rw [hK]; exact sr3.zd (rZ.step (st2.trans st3) rv) hd
  · rw [hK]; exact made_of sr3 q
end
end Rf
end
section
set_option linter.all false
set_option maxRecDepth 100000
set_option maxHeartbeats 1000000
namespace Rf
open PySem PySem.Spec PyProof.Rows L2
section
variable {prog : Program} {w : World} {A : Around} {E : Value → Shared → Prop} {s : Shared}
theorem sliceApplied_rev {sl : Addr} {vl vu vs : Value} {n : Nat} {Q : Int × Int × Nat → Shared → Prop} (hs : s.heap.IsSliceOf sl vl vu vs) (pl : IsPart vl none) (pu : IsPart vu none) (ps : IsPart vs (some (-1)))
    (h : Q ((n : Int) - 1, -1, n) s) : wpAny (model prog w) A (Builtin.Slice.sliceApplied (.ref sl) (pure (n : Int))) Q E s := by
  obtain ⟨os, hos, hcs, hds⟩ := id hs
  unfold Builtin.Slice.sliceApplied Builtin.Slice.sliceFields
  refine wpAny_bind (wpAny_bind (wpAny_field hos hds (x := vl) rfl (wpAny_bind (wpAny_field hos hds (x := vu) rfl (wpAny_bind (wpAny_field hos hds (x := vs) rfl (wpAny_pure ?_)))))))
  refine wpAny_bind (HT.slicePart_ ps ?_)
  show wpAny _ _ (if ((-1 : Int) == 0) = true then _ else _) _ _ s
  rw [if_neg (by decide)]
  refine wpAny_bind (HT.slicePart_ pl (wpAny_bind (HT.slicePart_ pu (wpAny_bind (wpAny_pure ?_)))))
  show wpAny _ _ (match Builtin.Slice.sliceAdjust none none (-1) (n : Int) with | (lo, hi) => pure (lo, (-1 : Int), Builtin.Slice.slicePlaces lo hi (-1))) _ _ s
  have e : Builtin.Slice.sliceAdjust none none (-1) (n : Int) = ((n : Int) - 1, -1) := by
    unfold Builtin.Slice.sliceAdjust
    simp
  rw [e]
  show wpAny _ _ (pure ((n : Int) - 1, (-1 : Int), Builtin.Slice.slicePlaces ((n : Int) - 1) (-1) (-1))) _ _ s
  have e2 : Builtin.Slice.slicePlaces ((n : Int) - 1) (-1) (-1) = n := by
    unfold Builtin.Slice.slicePlaces
    simp
    omega
  rw [e2]
  exact wpAny_pure h
theorem fm_map {α β : Type} {f : α → Option β} {g : α → β} : ∀ {l : List α}, (∀ m ∈ l, f m = some (g m)) → l.filterMap f = l.map g
  | [], _ => rfl
  | a :: l, h => by
    rw [List.filterMap_cons, h a List.mem_cons_self, List.map_cons, fm_map fun m hm => h m (List.mem_cons_of_mem _ hm)]
theorem pick_rev (xs : Array Value) : ((List.range xs.size).filterMap fun (m : Nat) => xs[(((xs.size : Int) - 1) + (m : Int) * (-1)).toNat]?).toArray = xs.toList.reverse.toArray := by
  have e : (List.range xs.size).filterMap (fun (m : Nat) => xs[(((xs.size : Int) - 1) + (m : Int) * (-1)).toNat]?) = xs.toList.reverse := by
    have h : ∀ m ∈ List.range xs.size, xs[(((xs.size : Int) - 1) + (m : Int) * (-1)).toNat]? = some (xs.toList.reverse.getD m .none) := fun m hm => by
      have hm : m < xs.size := List.mem_range.mp hm
      have e1 : (((xs.size : Int) - 1) + (m : Int) * (-1)).toNat = xs.size - 1 - m := by omega
      rw [e1, ← Array.getElem?_toList]
      have : xs.toList.reverse[m]? = xs.toList[xs.size - 1 - m]? := by
        rw [List.getElem?_reverse (by simpa using hm)]
        simp
      rw [List.getD_eq_getElem?_getD, this]
      have hlt : xs.size - 1 - m < xs.toList.length := by simp; omega
      rw [List.getElem?_eq_getElem hlt]
      rfl
    rw [fm_map h]
    refine List.ext_getElem? fun i => ?_
    rw [List.getElem?_map]
    by_cases hi : i < xs.size
    · rw [List.getElem?_range hi]
      have : i < xs.toList.reverse.length := by simpa using hi
      rw [List.getElem?_eq_getElem this]
      simp [List.getD_eq_getElem?_getD, List.getElem?_eq_getElem this]
    · rw [List.getElem?_eq_none (by simpa using hi), List.getElem?_eq_none (by simpa using hi)]
      rfl
  rw [e]
theorem getItem_tuple_rev {t sl : Addr} {items : Array Value} {vl vu vs : Value} {Q : Value → Shared → Prop} (ht : IsTup s.heap t items) (hs : s.heap.IsSliceOf sl vl vu vs) (pl : IsPart vl none) (pu : IsPart vu none) (ps : IsPart vs (some (-1)))
    (h : Q (.ref s.heap.objs.size) { s with heap := s.heap.push { cls := .type "tuple", data := .seq items.toList.reverse.toArray } })
    (hsz : items.size ≤ sizeLine) : wpAny (model prog w) A (getItem (.ref t) (.ref sl)) Q E s := by
  have htake : sizeOk (.seq items.toList.reverse.toArray) := by
    show items.toList.reverse.toArray.size ≤ sizeLine
    rw [List.size_toArray, List.length_reverse, Array.length_toList]
    exact hsz
  obtain ⟨os, hos, hcs, hds⟩ := id hs
  have hTs : s.TypeIs (.ref sl) "slice" := ⟨os, hos, hcs⟩
  unfold getItem
  try with_reducible refine wpAny_holding ?_
  first | refine wpAny_bind (wpAny_pure ?_) | skip
  refine wpAny_bind (wpAny_sequenceKey ht.typeIs (by decide) ?_)
  refine wpAny_bind (wpAny_callSpecial?_slot (name := Str.ofString "__getitem__") ht.typeIs PyProof.Rows.slot_tuple_getitem
    (wpAny_call_entry PyProof.Rows.slot_tuple_getitem ht.typeIs entry_tuple_getitem ?_ (args_tuple_getitem _ _)))
  show wpAny _ _ (Builtin.Tuple.tupleItemsOf (.ref t) >>= _) _ _ s
  refine wpAny_bind (tupleItemsOf_ ht ?_)
  refine wpAny_bind (wpAny_typeOf hTs ?_)
  rw [if_pos (by decide)]
  refine wpAny_bind (sliceApplied_rev hs pl pu ps ?_)
  show wpAny _ _ (if (((items.size : Int) - 1) == 0 && (-1 : Int) == 1 && items.size == items.size) = true then _ else _) _ _ s
  rw [if_neg (by simp), pick_rev]
  first
    | exact wpAny_bind (m := Builtin.Tuple.tupleExact _) (wpAny_newObj_type (wpAny_pure ⟨_, rfl, wpAny_pure h⟩) htake)
    | exact wpAny_bind (m := Builtin.Tuple.tupleExact _) (wpAny_newObj_type (wpAny_bind (wpAny_pure (wpAny_pure ⟨_, rfl, wpAny_pure h⟩))) htake)
    | exact wpAny_bind (wpAny_bind (m := Builtin.Tuple.tupleExact _) (wpAny_newObj_type (wpAny_pure (wpAny_pure ⟨_, rfl, wpAny_pure h⟩)) htake))
    | exact wpAny_bind (wpAny_bind (m := Builtin.Tuple.tupleExact _) (wpAny_newObj_type (wpAny_pure ⟨_, rfl, wpAny_pure h⟩) htake))
end
section
variable {tb : Tab} {n : Nat} {c : Cfg} {N : List Str} {sc : Scope} {X : Cx} {W : WX} {Γ : Nat → List Rf.X → CR}
def tRevD (X : Cx) (te : TE) : TE := fun σ H Q => te σ H fun x H1 => ∃ C d dz, (∀ a, C a → H1 a ≠ none) ∧ Rt X.K H1 C x d ∧ sRev d = some dz ∧ Made X.K C H1 dz Q
theorem pe_revD {e : Expr} {te : TE} {k : Nat} {p1 p2 p3 pos : Pos} (he : PE X e te) : PE X (.Subscript e (.Slice none none (some (.UnaryOp .USub (.Constant (.int 1) k p1) p2)) p3) pos) (tRevD X te) := by
  refine ⟨fun pins s σ H Q I h => ?_⟩
  refine Subscript_ (thn (he.run pins s σ H _ I h) fun v s1 ⟨x, H1, I1, r1, q1⟩ => ?_)
  obtain ⟨C, d, dz, hC, hx, hz, q⟩ := q1
  have hst : PO X (some (.UnaryOp .USub (.Constant (.int 1) k p1) p2)) (tPart (tUn (rU fun i => .int (-i)) (tC (.int 1)))) := po_some (pe_un un_neg pe_int)
  refine wpAny_Slice (thn (po_none.run pins s1 σ H1 (fun o H2 => o = none ∧ H2 = H1) I1 ⟨rfl, rfl⟩) fun vl s2 ⟨l, H2, I2, pl, el, e2⟩ => ?_)
  subst el e2
  refine thn (po_none.run pins s2 σ H2 (fun o H3 => o = none ∧ H3 = H2) I2 ⟨rfl, rfl⟩) fun vu s3 ⟨u, H3, I3, pu, eu, e3⟩ => ?_
  subst eu e3
  refine thn (hst.run pins s3 σ H3 (fun o H4 => o = some (-1) ∧ H4 = H3) I3 ⟨1, rfl, -1, rfl, rfl, rfl⟩) fun vs s4 ⟨o, H4, I4, ps, eo, e4⟩ => ?_
  subst eo e4
  have I5 : Inv X pins σ H4 { s4 with heap := s4.heap.push { cls := .type "slice", data := .fields #[vl, vu, vs] } } := I4.kept (t' := s4.toks) fun b ob q => Heap.get?_push_of_some _ q
  unfold sRev at hz
  split at hz
  · obtain rfl := Option.some.inj hz
    obtain ⟨a, xs, rfl, sa, ra⟩ := hx.list
    cases r1
    obtain ⟨its, r, ht, hz⟩ := I5.list sa
    have hlen := r.length
    show wpAny (model X.prog X.w) X.A (subscriptTail e (.Slice none none (some (.UnaryOp .USub (.Constant (.int 1) k p1) p2)) p3) (.ref a) (.ref s4.heap.objs.size)) (EP X pins σ Q) X.xe { s4 with heap := s4.heap.push { cls := .type "slice", data := .fields #[vl, vu, vs] } }
    refine tail_any (ops := [.ref a, .ref s4.heap.objs.size]) ht.isList.typeIs (PySem.slot_list_getitem.lookup) ?_ (by with_unfolding_all rfl)
    refine wpAny_getItem_list_slice ht.isList (Heap.IsSliceOf.new _ vl vu vs) pl pu ps (by decide) ?_ (by rw [List.size_toArray]; omega)
    rw [PySem.W.krv_pick]
    refine ⟨.ref _, _, I5.laid (t' := s4.toks) (o := .lst xs.reverse) (fun b ob q => Heap.get?_push_of_some _ q) (Nat.le_refl _) ?_, rfl, q.lst hC ra.rev _ (I5.hok.fresh (Nat.le_refl _))⟩
    exact ⟨by rw [List.length_reverse]; exact hz, _, 0, r.reverse, Heap.get?_push_size _ rfl⟩
  · obtain rfl := Option.some.inj hz
    obtain ⟨a, xs, rfl, sa, ra, _⟩ := hx.tuple
    cases r1
    obtain ⟨its, r, ht, hz⟩ := I5.tuple sa
    have hlen := r.length
    show wpAny (model X.prog X.w) X.A (subscriptTail e (.Slice none none (some (.UnaryOp .USub (.Constant (.int 1) k p1) p2)) p3) (.ref a) (.ref s4.heap.objs.size)) (EP X pins σ Q) X.xe { s4 with heap := s4.heap.push { cls := .type "slice", data := .fields #[vl, vu, vs] } }
    refine tail_any (ops := [.ref a, .ref s4.heap.objs.size]) ht.typeIs (PyProof.Rows.slot_tuple_getitem.lookup) ?_ (by with_unfolding_all rfl)
    refine getItem_tuple_rev ht (Heap.IsSliceOf.new _ vl vu vs) pl pu ps ?_ (by rw [List.size_toArray]; omega)
    refine ⟨.ref _, _, I5.laid (t' := s4.toks) (o := .tup xs.reverse) (fun b ob q => Heap.get?_push_of_some _ q) (Nat.le_refl _) ?_, rfl, q.tup hC ra.rev _ (I5.hok.fresh (Nat.le_refl _))⟩
    exact ⟨by rw [List.length_reverse]; exact hz, _, r.reverse, IsTup.new _ _⟩
  · cases hz
theorem snd_rev (hK : X.K = c.K) {e : Expr} {k : Nat} {p1 p2 p3 pos : Pos} {z : Z} (he : PE X e (tM c W (evalZ Γ z) (rZ c.K))) : PE X (.Subscript e (.Slice none none (some (.UnaryOp .USub (.Constant (.int 1) k p1) p2)) p3) pos) (tM c W (evalE Γ (.rev z)) (rP c.K)) := by
  refine PE.imp (pe_revD he) fun σ H Q ⟨W0, sl, sr, q⟩ => ?_
  simp only [evalE] at q
  refine ⟨W0, sl, sr, q.bind.mono fun zx W1 sl1 H1 st1 sr1 q v rv => ?_⟩
  obtain ⟨dz, hz, q⟩ := q.of
  obtain ⟨d, hd, hz⟩ := Option.bind_eq_some_iff.mp (show (zD sl1 zx).bind _ = some dz from hz)
  refine ⟨un W1 c.C0, d, dz, sr1.trk, ?_, hz, ?_⟩
  · rw [hK]; exact sr1.zd rv hd
  · rw [hK]; exact made_of sr1 q
end
end Rf
end
section
set_option linter.all false
set_option maxRecDepth 100000
set_option maxHeartbeats 1000000
namespace Rf
open PySem PySem.Spec PyProof.Rows L2
def isTupE : Expr → Bool
  | .Tuple _ _ _ => true
  | _ => false
def dbgB (x : Str) : Bool := !(x == ("__debug__" : Str))
section
variable (tb : Tab) (N : List Str)
mutual
def okE : L → Scope → Expr → Bool
  | .var i, sc, e => match e with
    | .Name x _ => nameB N sc i x
    | _ => false
  | .frz i, sc, e => match e with
    | .Name x _ => nameB N sc i x
    | _ => false
  | .peek i, sc, e => match e with
    | .Name x _ => nameB N sc i x
    | _ => false
  | .const c, sc, e => match e with
    | .Constant k _ _ => constB c k
    | _ => false
  | .tup es, sc, e => match e with
    | .Tuple xs _ _ => okLs es sc xs
    | _ => false
  | .lst es, sc, e => match e with
    | .List xs _ => okLs es sc xs
    | _ => false
  | .op o a b, sc, e => match e with
    | .BinOp x p y _ => binO o p && okZ a sc x && okZ b sc y
    | .Compare x [p] [y] _ => cmpO o p && okZ a sc x && okZ b sc y && !setB y
    | _ => false
  | .neg a, sc, e => match e with
    | .UnaryOp .USub x _ => okE a sc x && solid a
    | _ => false
  | .not_ a, sc, e => match e with
    | .UnaryOp .Not x _ => okE a sc x
    | _ => false
  | .chain o p a b c, sc, e => match e with
    | .Compare x [q, r] [y, z] _ => cmpO o q && cmpO p r && okE a sc x && solid a && okE b sc y && solid b && okE c sc z && solid c && !setB z
    | _ => false
  | .and_ a b, sc, e => match e with
    | .BoolOp .And (x :: y :: rest) p => okE a sc x && (match rest with
      | [] => okE b sc y
      | _ :: _ => okE b sc (.BoolOp .And (y :: rest) p))
    | _ => false
  | .or_ a b, sc, e => match e with
    | .BoolOp .Or (x :: y :: rest) p => okE a sc x && (match rest with
      | [] => okE b sc y
      | _ :: _ => okE b sc (.BoolOp .Or (y :: rest) p))
    | _ => false
  | .ite t a b, sc, e => match e with
    | .IfExp c x y _ => okE t sc c && tstB t c && okE a sc x && okE b sc y
    | _ => false
  | .call f as, sc, e => match e with
    | .Call (.Name x _) (y :: ys) [] _ => tb.fname f == some x && glB sc x && dbgB x && okAs as sc (y :: ys)
    | _ => false
  | .bi b as, sc, e => match b with
    | .isi t => match as, e with
      | .cons z .nil, .Call (.Name x _) [y, .Name u _] [] _ => x == ("isinstance" : Str) && glB sc x && u == (tyName t : Str) && glB sc u && okZ z sc y
      | _, _ => false
    | .lenset => match as, e with
      | .cons z .nil, .Call (.Name x _) [.Call (.Name u _) [y] [] _] [] _ => x == ("len" : Str) && glB sc x && u == ("set" : Str) && glB sc u && okZ z sc y
      | _, _ => false
    | b => match e with
      | .Call (.Name x _) (y :: ys) [] _ => biName b == some x && glB sc x && okAs as sc (y :: ys)
      | _ => false
  | .idx a i, sc, e => match e with
    | .Subscript x y _ => okZ a sc x && okZ i sc y && !sliceB y
    | _ => false
  | .comp l t it cond own, sc, e => match e with
    | .ListComp elt [⟨tg, iter, ifs, 0⟩] scope _ => okI it sc tg iter && blkC N sc scope (ownP N own) && okT N scope t tg && (tIds t).all (fun i => decide (i ∈ own)) && okC cond (relS scope sc) ifs && okE l (relS scope sc) elt && solid l && !setB iter
    | _ => false
  | .glob g, sc, e => match e with
    | .Name x _ => tb.gname g == some x && glB sc x && dbgB x
    | _ => false
  | .gin neg a, sc, e => match e with
    | .Compare x [p] [.Name y _] _ => (if neg then p == .NotIn else p == .In) && tb.sname == some y && glB sc y && dbgB y && okE a sc x && solid a
    | _ => false
  | .gget a, sc, e => match e with
    | .Subscript (.Name y _) k _ => tb.sname == some y && glB sc y && dbgB y && okE a sc k && solid a && !sliceB k
    | _ => false
  | .comp2 l t it t1 it1 cond own own1, sc, e => match e with
    | .ListComp elt [⟨tg, iter, [], 0⟩, ⟨tg1, iter1, ifs1, 0⟩] scope _ => okI it sc tg iter && blkC N sc scope (ownP N own) && okT N scope t tg && okT N scope t1 tg1 && (tIds t).all (fun i => decide (i ∈ own)) && (tIds t1).all (fun i => decide (i ∈ own1)) && own1.all (fun i => decide (i ∈ own)) &&
        okI it1 (relS scope sc) tg1 iter1 && okC cond (relS scope sc) ifs1 && okE l (relS scope sc) elt && solid l && !setB iter && !setB iter1
    | _ => false
  | .dict kvs, _, e => match e with
    | .Dict ks vs _ => dictB kvs ks vs
    | _ => false
  | .dget i k d, sc, e => match e with
    | .Call (.Attribute (.Name x _) m apos) [e1, e2] [] cpos => m == ("get" : Str) && nameB N sc i x && linesB apos cpos && !starB e1 && !starB e2 && okE k sc e1 && solid k && okE d sc e2 && solid d
    | _ => false
  | .pop i, sc, e => match e with
    | .Call (.Attribute (.Name x _) m apos) [] [] cpos => m == ("pop" : Str) && nameB N sc i x && linesB apos cpos
    | _ => false
  | .popAt i a, sc, e => match e with
    | .Call (.Attribute (.Name x _) m apos) [y] [] cpos => m == ("pop" : Str) && nameB N sc i x && linesB apos cpos && !starB y && okE a sc y && solid a
    | _ => false
  | .slice a lo hi, sc, e => match e with
    | .Subscript x (.Slice l h none _) _ => okZ a sc x && okO lo sc l && okO hi sc h
    | _ => false
  | .rev a, sc, e => match e with
    | .Subscript x (.Slice none none (some (.UnaryOp .USub (.Constant (.int k) _ _) _)) _) _ => okZ a sc x && k == 1
    | _ => false
  | _, _, _ => false
def okO : Ol → Scope → Option Expr → Bool
  | .none, _, o => o.isNone
  | .some a, sc, o => match o with
    | some e => okE a sc e && solid a
    | none => false
def okZ : Z → Scope → Expr → Bool
  | .val a, sc, e => okE a sc e && solid a && !starB e
  | .ref i, sc, e => match e with
    | .Name x _ => nameB N sc i x
    | _ => false
  | .new, _, _ => false
def okLs : Ls → Scope → List Expr → Bool
  | .nil, _, es => es.isEmpty
  | .cons a r, sc, es => match es with
    | e :: es => okE a sc e && solid a && !starB e && okLs r sc es
    | [] => false
def okAs : As → Scope → List Expr → Bool
  | .nil, _, es => es.isEmpty
  | .cons z r, sc, es => match es with
    | e :: es => okZ z sc e && okAs r sc es
    | [] => false
def okC : Ol → Scope → List Expr → Bool
  | .none, _, es => es.isEmpty
  | .some a, sc, es => match es with
    | [e] => okE a sc e && tstB a e
    | _ => false
def okI : I → Scope → Expr → Expr → Bool
  | .seq a, sc, _, e => okE a sc e && solid a
  | .range1 a, sc, _, e => match e with
    | .Call (.Name x _) [y] [] _ => x == ("range" : Str) && glB sc x && okE a sc y && solid a && !starB y
    | _ => false
  | .range2 a b, sc, _, e => match e with
    | .Call (.Name x _) [y, z] [] _ => x == ("range" : Str) && glB sc x && okE a sc y && solid a && !starB y && okE b sc z && solid b && !starB z
    | _ => false
  | .zip a b, sc, tg, e => match e with
    | .Call (.Name x _) [y, z] [] _ => x == ("zip" : Str) && glB sc x && okE a sc y && solid a && !starB y && okE b sc z && solid b && !starB z && isTupE tg
    | _ => false
  | .enum a, sc, tg, e => match e with
    | .Call (.Name x _) [y] [] _ => x == ("enumerate" : Str) && glB sc x && okE a sc y && solid a && !starB y && isTupE tg
    | _ => false
  | _, _, _, _ => false
/-- the forms of tests -/
def tstB : L → Expr → Bool
  | .and_ a b, e => match e with
    | .BoolOp .And (x :: y :: rest) p => tstB a x && (match rest with
      | [] => tstB b y
      | _ :: _ => tstB b (.BoolOp .And (y :: rest) p))
    | _ => false
  | .or_ a b, e => match e with
    | .BoolOp .Or (x :: y :: rest) p => tstB a x && (match rest with
      | [] => tstB b y
      | _ :: _ => tstB b (.BoolOp .Or (y :: rest) p))
    | _ => false
  | .not_ a, e => match e with
    | .UnaryOp .Not x _ => tstB a x
    | _ => false
  | .op o _ _, e => plainTest e || cmpB o
  | .chain _ p _ _ _, _ => cmpB p
  | .gin _ _, _ => true
  | _, e => plainTest e
end
end
end Rf
end
section
set_option linter.all false
set_option maxRecDepth 100000
set_option maxHeartbeats 1000000
namespace Rf
open PySem PySem.Spec PyProof.Rows L2
section
variable {tb : Tab} {n : Nat} {c : Cfg} {N : List Str} {sc : Scope} {X : Cx} {W : WX} {Γ : Nat → List Rf.X → CR}
theorem and_gen {x y : Expr} {rest : List Expr} {p : Pos} {a b : L} {re : L2.St → D → V → Hp → (Addr → Prop) → Prop} (hK : X.K = c.K) (hre : ∀ {σ d v H C}, re σ d v H C → Rt c.K H C v d) (ha : PE X x (tM c W (evalE Γ a) re)) (hb : PE X (.BoolOp .And (y :: rest) p) (tM c W (evalE Γ b) re)) :
    PE X (.BoolOp .And (x :: y :: rest) p) (tM c W (evalE Γ (.and_ a b)) re) := by
  refine PE.imp (pe_andT ha hb) fun σ H Q ⟨W0, sl, sr, q⟩ => ?_
  simp only [evalE] at q
  refine ⟨W0, sl, sr, q.bind.mono fun d W1 sl1 H1 st sr1 q v rv => ⟨truth d, ?_, ?_⟩⟩
  · have r : Rt c.K H1 (un W1 c.C0) v d := hre rv
    rw [← hK] at r
    exact tru_of r
  · split at q
    · rename_i hd
      rw [if_pos hd]
      exact ⟨W1, sl1, sr1, q⟩
    · rename_i hd
      rw [if_neg hd]
      exact q.now sr1 v rv
theorem or_gen {x y : Expr} {rest : List Expr} {p : Pos} {a b : L} {re : L2.St → D → V → Hp → (Addr → Prop) → Prop} (hK : X.K = c.K) (hre : ∀ {σ d v H C}, re σ d v H C → Rt c.K H C v d) (ha : PE X x (tM c W (evalE Γ a) re)) (hb : PE X (.BoolOp .Or (y :: rest) p) (tM c W (evalE Γ b) re)) :
    PE X (.BoolOp .Or (x :: y :: rest) p) (tM c W (evalE Γ (.or_ a b)) re) := by
  refine PE.imp (pe_orT ha hb) fun σ H Q ⟨W0, sl, sr, q⟩ => ?_
  simp only [evalE] at q
  refine ⟨W0, sl, sr, q.bind.mono fun d W1 sl1 H1 st sr1 q v rv => ⟨truth d, ?_, ?_⟩⟩
  · have r : Rt c.K H1 (un W1 c.C0) v d := hre rv
    rw [← hK] at r
    exact tru_of r
  · split at q
    · rename_i hd
      rw [if_pos hd]
      exact q.now sr1 v rv
    · rename_i hd
      rw [if_neg hd]
      exact ⟨W1, sl1, sr1, q⟩
/-- two terms' readings as one -/
theorem both {x y : Expr} {a b : L} {k : L} (ha : PE X x (tM c W (evalE Γ a) (rE c.K a))) (hb : PE X y (tM c W (evalE Γ b) (rE c.K b))) (hk : solid k = (solid a && solid b)) : PE X x (tM c W (evalE Γ a) (rE c.K k)) ∧ PE X y (tM c W (evalE Γ b) (rE c.K k)) := by
  have up : ∀ {z : Expr} {l : L}, PE X z (tM c W (evalE Γ l) (rE c.K l)) → PE X z (tM c W (evalE Γ l) (rT c.K)) := fun {z l} h => by
    by_cases hs : solid l = true
    · rw [rE_solid hs] at h; exact pe_read h
    · unfold rE at h; rw [if_neg hs] at h; exact h
  by_cases hs : solid k = true
  · rw [rE_solid hs]
    rw [hk, Bool.and_eq_true] at hs
    rw [rE_solid hs.1] at ha
    rw [rE_solid hs.2] at hb
    exact ⟨ha, hb⟩
  · have e : rE c.K k = rT c.K := by unfold rE; rw [if_neg hs]
    rw [e]
    exact ⟨up ha, up hb⟩
/-- which terms make a mutable object -/
def newB : L → Bool
  | .lst _ => true
  | .comp _ _ _ _ _ => true
  | .comp2 _ _ _ _ _ _ _ _ => true
  | .dict _ => true
  | .op .add _ _ => true
  | .bi .list (.cons _ .nil) => true
  | _ => false
def boolE : Expr → Bool
  | .BoolOp _ _ _ => true
  | _ => false
structure Snd (tb : Tab) (N : List Str) (n : Nat) (c : Cfg) (X : Cx) (W : WX) (l : L) (e : Expr) : Prop where
  pe : PE X e (tM c W (evalE (run tb.prog n) l) (rE c.K l))
  pn : newB l = true → PE X e (tN c W (evalN (run tb.prog n) l))
  pt : tstB tb N l e = true → PT X e (tMb c W (evalT (run tb.prog n) l))
  pw : tstB tb N l e = true → boolE e = true → PW X e (tMb c W (evalT (run tb.prog n) l))
theorem Snd.data {l : L} {e : Expr} (h : Snd tb N n c X W l e) (hs : solid l = true) : PE X e (tM c W (evalE (run tb.prog n) l) (rP c.K)) := by
  have := h.pe
  rw [rE_solid hs] at this
  exact this
/-- no mutable object made; a test by truth -/
theorem Snd.plain {l : L} {e : Expr} (hK : X.K = c.K) (hn : newB l = false) (ht : tstB tb N l e = plainTest e) (hs : solid l = true) (h : PE X e (tM c W (evalE (run tb.prog n) l) (rP c.K))) : Snd tb N n c X W l e := by
  have h' : PE X e (tM c W (evalE (run tb.prog n) l) (rE c.K l)) := by rw [rE_solid hs]; exact h
  exact ⟨h', fun z => absurd (hn ▸ z) (by decide), fun z => test_plain hK h' (ht ▸ z), fun z w => by
    rw [ht] at z
    cases e <;> first
      | (cases w; done)
      | (cases z; done)⟩
theorem set_free {e : Expr} {env : Env} (h : setB e = false) : ∀ x, foldedSetIterable e env x = pure x := fun x => by
  cases e <;> first
    | rfl
    | (cases (show true = false from h))
end

theorem add_of {o : O2} {za zb : Z} {p : Operator} (h : newB (.op o za zb) = true) (hb : binO o p = true) : o = .add ∧ p = .Add := by
  unfold newB at h
  split at h <;> first | (rename_i e; cases e; done) | skip
  · rename_i e; cases e
    cases p <;> first | exact ⟨rfl, rfl⟩ | (cases hb)
  · cases h
theorem add_not {o : O2} {za zb : Z} {p : CmpOp} (h : newB (.op o za zb) = true) : cmpO o p = false := by
  unfold newB at h
  split at h <;> first | (rename_i e; cases e; done) | skip
  · rename_i e; cases e
    cases p <;> rfl
  · cases h
theorem dbg_of {x : Str} (h : dbgB x = true) : (x == ("__debug__" : Str)) = false := by unfold dbgB at h; simpa using h
section
variable {tb : Tab} {N : List Str}
theorem sStar1 (z : Z) {sc : Scope} {e : Expr} (h : okZ tb N z sc e = true) : starB e = false := by
  cases z with
  | val a =>
    unfold okZ at h
    simp only [Bool.and_eq_true, Bool.not_eq_true'] at h
    exact h.2
  | ref i =>
    unfold okZ at h
    split at h
    · rfl
    · cases h
  | new => simp [okZ] at h
theorem sStars : ∀ (as : As) {sc : Scope} {xs : List Expr}, okAs tb N as sc xs = true → xs.all (fun e => !starB e) = true
  | .nil, sc, xs, h => by
    unfold okAs at h
    obtain rfl := List.isEmpty_iff.mp h
    rfl
  | .cons z r, sc, xs, h => by
    unfold okAs at h
    split at h
    · simp only [Bool.and_eq_true] at h
      rw [List.all_cons, sStar1 z h.1, sStars r h.2]
      rfl
    · cases h
mutual
theorem sE : ∀ (l : L) {n : Nat} {c : Cfg} {sc : Scope} {X : Cx} {W : WX} {e : Expr}, Good tb n c N sc X W → okE tb N l sc e = true → Snd tb N n c X W l e
  | .var i, n, c, sc, X, W, e, G, h => by
    unfold okE at h
    split at h
    · exact .plain G.hK rfl rfl rfl (snd_var G h)
    · cases h
  | .frz i, n, c, sc, X, W, e, G, h => by
    unfold okE at h
    split at h
    · exact .plain G.hK rfl rfl rfl (snd_frz G h)
    · cases h
  | .peek i, n, c, sc, X, W, e, G, h => by
    unfold okE at h
    split at h
    · have h' := snd_peek (Γ := run tb.prog n) (p := by assumption) G h
      exact ⟨h', fun z => (by cases z), fun z => test_plain G.hK h' z, fun _ w => absurd w (by simp [boolE])⟩
    · cases h
  | .const d, n, c, sc, X, W, e, G, h => by
    unfold okE at h
    split at h
    · exact .plain G.hK rfl rfl rfl (snd_const h)
    · cases h
  | .tup es, n, c, sc, X, W, e, G, h => by
    unfold okE at h
    split at h
    · exact .plain G.hK rfl rfl rfl (snd_tup (sLs es G h))
    · cases h
  | .lst es, n, c, sc, X, W, e, G, h => by
    unfold okE at h
    split at h
    · have h' := snd_lst (Γ := run tb.prog n) (p := by assumption) (sLs es G h)
      refine ⟨by rw [rE_solid rfl]; exact h', fun _ => new_list (sLs es G h), fun z => test_plain G.hK (by rw [rE_solid rfl]; exact h') z, fun _ w => absurd w (by simp [boolE])⟩
    · cases h
  | .op o a b, n, c, sc, X, W, e, G, h => by
    unfold okE at h
    split at h
    · simp only [Bool.and_eq_true] at h
      obtain ⟨⟨h1, h2⟩, h3⟩ := h
      have key := pe_op (pos := by assumption) (bin_ok h1) (sZ a G h2) (sZ b G h3)
      have h' := PE.imp key fun σ H Q q => op_imp (Γ := run tb.prog n) G.hK q
      refine ⟨by rw [rE_solid rfl]; exact h', fun z => ?_, fun z => test_plain G.hK (by rw [rE_solid rfl]; exact h') rfl, fun _ w => absurd w (by simp [boolE])⟩
      obtain ⟨rfl, rfl⟩ := add_of z h1
      exact new_cat G (sZ a G h2) (sZ b G h3)
    · simp only [Bool.and_eq_true, Bool.not_eq_true'] at h
      obtain ⟨⟨⟨h1, h2⟩, h3⟩, h4⟩ := h
      have key := pe_cmpR (pos := by assumption) (cmp_ok G.room h1) (sZ a G h2) (sZ b G h3) (noMarks_of h4)
      have h' := PE.imp key fun σ H Q q => op_imp (Γ := run tb.prog n) G.hK q
      exact ⟨by rw [rE_solid rfl]; exact h', fun z => absurd h1 (by rw [add_not z]; decide), fun z => tst_op G.hK (cmp_ok G.room h1) (by unfold tstB at z; simpa [plainTest] using z) h4 (sZ a G h2) (sZ b G h3), fun _ w => absurd w (by simp [boolE])⟩
    · cases h
  | .neg a, n, c, sc, X, W, e, G, h => by
    unfold okE at h
    split at h
    · obtain ⟨h1, h2⟩ := Bool.and_eq_true_iff.mp h
      exact .plain G.hK rfl rfl rfl (snd_neg ((sE a G h1).data h2))
    · cases h
  | .not_ a, n, c, sc, X, W, e, G, h => by
    unfold okE at h
    split at h
    · have s := sE a G h
      exact ⟨by rw [rE_solid rfl]; exact snd_not G.hK s.pe, fun z => (by cases z), fun z => tst_not (s.pt z), fun _ w => absurd w (by simp [boolE])⟩
    · cases h
  | .chain o p a b d, n, c, sc, X, W, e, G, h => by
    unfold okE at h
    split at h
    · simp only [Bool.and_eq_true, Bool.not_eq_true'] at h
      obtain ⟨⟨⟨⟨⟨⟨⟨⟨h1, h2⟩, h3⟩, h4⟩, h5⟩, h6⟩, h7⟩, h8⟩, h9⟩ := h
      have ha := (sE a G h3).data h4
      have hb := (sE b G h5).data h6
      have hd := (sE d G h7).data h8
      have h' := snd_chain (pos := by assumption) G.hK h9 (cmp_ok G.room h1) (cmp_ok G.room h2) ha hb hd
      exact ⟨by rw [rE_solid rfl]; exact h', fun z => (by cases z), fun z => tst_chain G.hK h9 (cmp_ok G.room h1) (cmp_ok G.room h2) z ha hb hd, fun _ w => absurd w (by simp [boolE])⟩
    · cases h
  | .and_ a b, n, c, sc, X, W, e, G, h => by
    unfold okE at h
    split at h
    · rename_i x y rest p
      obtain ⟨h1, h2⟩ := Bool.and_eq_true_iff.mp h
      have sa := sE a G h1
      cases rest with
      | nil =>
        have sb := sE b G h2
        obtain ⟨q1, q2⟩ := both (k := .and_ a b) sa.pe sb.pe rfl
        have pw : tstB tb N (.and_ a b) (.BoolOp .And [x, y] p) = true → PW X (.BoolOp .And [x, y] p) (tMb c W (evalT (run tb.prog n) (.and_ a b))) := fun z => by
          unfold tstB at z
          obtain ⟨z1, z2⟩ := Bool.and_eq_true_iff.mp z
          exact tst_and (sa.pt z1) (pw_and1 (sb.pt z2))
        exact ⟨and_gen G.hK (fun r => rE_rt r) q1 (pe_one q2), fun z => (by cases z), fun z => (pw z).pt, fun z _ => pw z⟩
      | cons r rs =>
        have sb := sE b G h2
        obtain ⟨q1, q2⟩ := both (k := .and_ a b) sa.pe sb.pe rfl
        have pw : tstB tb N (.and_ a b) (.BoolOp .And (x :: y :: r :: rs) p) = true → PW X _ (tMb c W (evalT (run tb.prog n) (.and_ a b))) := fun z => by
          unfold tstB at z
          obtain ⟨z1, z2⟩ := Bool.and_eq_true_iff.mp z
          exact tst_and (sa.pt z1) (sb.pw z2 rfl)
        exact ⟨and_gen G.hK (fun r => rE_rt r) q1 q2, fun z => (by cases z), fun z => (pw z).pt, fun z _ => pw z⟩
    · cases h
  | .or_ a b, n, c, sc, X, W, e, G, h => by
    unfold okE at h
    split at h
    · rename_i x y rest p
      obtain ⟨h1, h2⟩ := Bool.and_eq_true_iff.mp h
      have sa := sE a G h1
      cases rest with
      | nil =>
        have sb := sE b G h2
        obtain ⟨q1, q2⟩ := both (k := .or_ a b) sa.pe sb.pe rfl
        have pw : tstB tb N (.or_ a b) (.BoolOp .Or [x, y] p) = true → PW X (.BoolOp .Or [x, y] p) (tMb c W (evalT (run tb.prog n) (.or_ a b))) := fun z => by
          unfold tstB at z
          obtain ⟨z1, z2⟩ := Bool.and_eq_true_iff.mp z
          exact tst_or (sa.pt z1) (pw_or1 (sb.pt z2))
        exact ⟨or_gen G.hK (fun r => rE_rt r) q1 (pe_one q2), fun z => (by cases z), fun z => (pw z).pt, fun z _ => pw z⟩
      | cons r rs =>
        have sb := sE b G h2
        obtain ⟨q1, q2⟩ := both (k := .or_ a b) sa.pe sb.pe rfl
        have pw : tstB tb N (.or_ a b) (.BoolOp .Or (x :: y :: r :: rs) p) = true → PW X _ (tMb c W (evalT (run tb.prog n) (.or_ a b))) := fun z => by
          unfold tstB at z
          obtain ⟨z1, z2⟩ := Bool.and_eq_true_iff.mp z
          exact tst_or (sa.pt z1) (sb.pw z2 rfl)
        exact ⟨or_gen G.hK (fun r => rE_rt r) q1 q2, fun z => (by cases z), fun z => (pw z).pt, fun z _ => pw z⟩
    · cases h
  | .ite t a b, n, c, sc, X, W, e, G, h => by
    unfold okE at h
    split at h
    · simp only [Bool.and_eq_true] at h
      obtain ⟨⟨⟨h1, h2⟩, h3⟩, h4⟩ := h
      obtain ⟨q1, q2⟩ := both (k := .ite t a b) (sE a G h3).pe (sE b G h4).pe rfl
      exact ⟨snd_ite ((sE t G h1).pt h2) q1 q2, fun z => (by cases z), fun z => (by cases z), fun _ w => absurd w (by simp [boolE])⟩
    · cases h
  | .call f as, n, c, sc, X, W, e, G, h => by
    unfold okE at h
    split at h
    · simp only [Bool.and_eq_true] at h
      obtain ⟨⟨⟨h1, h2⟩, h3⟩, h4⟩ := h
      have hd := fun {x : Str} (h : dbgB x = true) => (show (x == ("__debug__" : Str)) = false by unfold dbgB at h; simpa using h)
      exact .plain G.hK rfl rfl rfl (snd_call G (beq_iff_eq.mp h1) h2 (hd h3) (sStars as h4) (sAs as G h4))
    · cases h
  | .bi b as, n, c, sc, X, W, e, G, h => by
    unfold okE at h
    split at h
    · split at h
      · simp only [Bool.and_eq_true] at h
        obtain ⟨⟨⟨⟨h1, h2⟩, h3⟩, h4⟩, h5⟩ := h
        obtain rfl := beq_iff_eq.mp h1
        obtain rfl := beq_iff_eq.mp h3
        exact .plain G.hK rfl rfl rfl (snd_isi G h2 h4 (sStar1 _ h5) (sZ _ G h5))
      · cases h
    · split at h
      · simp only [Bool.and_eq_true] at h
        obtain ⟨⟨⟨⟨h1, h2⟩, h3⟩, h4⟩, h5⟩ := h
        obtain rfl := beq_iff_eq.mp h1
        obtain rfl := beq_iff_eq.mp h3
        exact .plain G.hK rfl rfl rfl (snd_lenset G h2 h4 (sStar1 _ h5) (sZ _ G h5))
      · cases h
    · split at h
      · rename_i x p1 y ys p2
        simp only [Bool.and_eq_true] at h
        obtain ⟨⟨h1, h2⟩, h3⟩ := h
        have h' := snd_bi (p := p1) (pos := p2) G (beq_iff_eq.mp h1) h2 (sStars as h3) (sAs as G h3)
        refine ⟨by rw [rE_solid rfl]; exact h', fun z => ?_, fun z => test_plain G.hK (by rw [rE_solid rfl]; exact h') (by unfold tstB at z; exact z), fun z w => absurd w (by simp [boolE])⟩
        unfold newB at z
        split at z
        · rename_i e1; cases e1
        · rename_i e1; cases e1
        · rename_i e1; cases e1
        · rename_i e1; cases e1
        · rename_i e1; cases e1
        · rename_i z1 e1
          cases e1
          unfold okAs at h3
          simp only [Bool.and_eq_true] at h3
          unfold okAs at h3
          obtain rfl := List.isEmpty_iff.mp h3.2
          obtain rfl : _ = ("list" : Str) := (Option.some.inj (beq_iff_eq.mp h1)).symm
          exact list_new G h2 (sStar1 z1 h3.1) (sZ z1 G h3.1)
        · cases z
      · cases h
  | .idx a i, n, c, sc, X, W, e, G, h => by
    unfold okE at h
    split at h
    · simp only [Bool.and_eq_true, Bool.not_eq_true'] at h
      obtain ⟨⟨h1, h2⟩, h3⟩ := h
      exact .plain G.hK rfl rfl rfl (snd_idx G h3 (sZ a G h1) (sZ i G h2))
    · cases h
  | .comp l t it cond own, n, c, sc, X, W, e, G, h => by
    unfold okE at h
    split at h
    · simp only [Bool.and_eq_true, Bool.not_eq_true'] at h
      obtain ⟨⟨⟨⟨⟨⟨⟨h1, h2⟩, h3⟩, h4⟩, h5⟩, h6⟩, h7⟩, h8⟩ := h
      have key : PE X _ (tN c W (evalN (run tb.prog n) (.comp l t it cond own))) := snd_comp (pos := by assumption) G (sI it G h1) h2 h3 h4 (fun D s H C cl fp => sC cond (G.blk D) h5) (fun D s H C cl fp => (sE l (G.blk D) h6).data h7) (set_free h8)
      have hl : ∀ sl d sl', evalE (run tb.prog n) (.comp l t it cond own) sl = .ok d sl' → ∃ ds, d = .list ds := fun sl d sl' e => by
        rw [evalE_comp] at e
        obtain ⟨xs, sl1, _, e⟩ := R.bind_ok_iff e
        split at e
        · obtain ⟨ys, sl2, _, e⟩ := R.bind_ok_iff e
          cases e
          exact ⟨ys, rfl⟩
        · cases e
      have h' := pe_data hl key
      exact ⟨by rw [rE_solid rfl]; exact h', fun _ => key, fun z => test_plain G.hK (by rw [rE_solid rfl]; exact h') z, fun _ w => absurd w (by simp [boolE])⟩
    · cases h
  | .meth _ _, n, c, sc, X, W, e, G, h => by simp [okE] at h
  | .slice a lo hi, n, c, sc, X, W, e, G, h => by
    unfold okE at h
    split at h
    · simp only [Bool.and_eq_true] at h
      obtain ⟨⟨h1, h2⟩, h3⟩ := h
      exact .plain G.hK rfl rfl rfl (snd_slice G.hK (sZ a G h1) (sO lo G h2) (sO hi G h3))
    · cases h
  | .rev a, n, c, sc, X, W, e, G, h => by
    unfold okE at h
    split at h
    · simp only [Bool.and_eq_true] at h
      obtain ⟨h1, h2⟩ := h
      obtain rfl := beq_iff_eq.mp h2
      exact .plain G.hK rfl rfl rfl (snd_rev G.hK (sZ a G h1))
    · cases h
  | .glob g, n, c, sc, X, W, e, G, h => by
    unfold okE at h
    split at h
    · simp only [Bool.and_eq_true] at h
      obtain ⟨⟨h1, h2⟩, h3⟩ := h
      exact .plain G.hK rfl rfl rfl (snd_glob G (beq_iff_eq.mp h1) h2 (dbg_of h3))
    · cases h
  | .pop i, n, c, sc, X, W, e, G, h => by
    unfold okE at h
    split at h
    · simp only [Bool.and_eq_true] at h
      obtain ⟨⟨h1, h2⟩, h3⟩ := h
      obtain rfl := beq_iff_eq.mp h1
      exact .plain G.hK rfl rfl rfl (snd_pop G h2 h3)
    · cases h
  | .popAt i a, n, c, sc, X, W, e, G, h => by
    unfold okE at h
    split at h
    · simp only [Bool.and_eq_true, Bool.not_eq_true'] at h
      obtain ⟨⟨⟨⟨⟨h1, h2⟩, h3⟩, h4⟩, h5⟩, h6⟩ := h
      obtain rfl := beq_iff_eq.mp h1
      exact .plain G.hK rfl rfl rfl (snd_popAt G h2 h3 h4 ((sE a G h5).data h6))
    · cases h
  | .gin neg a, n, c, sc, X, W, e, G, h => by
    unfold okE at h
    split at h
    · rename_i x p y q pos
      simp only [Bool.and_eq_true] at h
      obtain ⟨⟨⟨⟨⟨h1, h2⟩, h3⟩, h4⟩, h5⟩, h6⟩ := h
      have h' := snd_gin (neg := neg) (p := q) (pos := pos) G (beq_iff_eq.mp h2) h3 (dbg_of h4) ((sE a G h5).data h6)
      have e : (if neg = true then CmpOp.NotIn else CmpOp.In) = p := by cases neg <;> exact (beq_iff_eq.mp h1).symm
      have t' := tst_gin (neg := neg) (p := q) (pos := pos) G (beq_iff_eq.mp h2) h3 (dbg_of h4) ((sE a G h5).data h6)
      rw [e] at h' t'
      exact ⟨by rw [rE_solid rfl]; exact h', fun z => (by cases z), fun _ => t', fun _ w => absurd w (by simp [boolE])⟩
    · cases h
  | .gget a, n, c, sc, X, W, e, G, h => by
    unfold okE at h
    split at h
    · simp only [Bool.and_eq_true, Bool.not_eq_true'] at h
      obtain ⟨⟨⟨⟨⟨h2, h3⟩, h4⟩, h5⟩, h6⟩, h7⟩ := h
      exact .plain G.hK rfl rfl rfl (snd_gget G (beq_iff_eq.mp h2) h3 (dbg_of h4) h7 ((sE a G h5).data h6))
    · cases h
  | .chain3 _ _ _ _ _ _ _, n, c, sc, X, W, e, G, h => by simp [okE] at h
  | .dict kvs, n, c, sc, X, W, e, G, h => by
    unfold okE at h
    split at h
    · rename_i ks vs pos
      have key := new_dict (X := X) (c := c) (W := W) (pos := pos) (Γ := run tb.prog n) h
      have h' : PE X (.Dict ks vs pos) (tM c W (evalE (run tb.prog n) (.dict kvs)) (rP c.K)) := PE.imp key fun σ H Q ⟨W0, sl, sr, q⟩ => by
        simp only [evalE] at q
        exact q.elim
      exact ⟨by rw [rE_solid rfl]; exact h', fun _ => key, fun z => test_plain G.hK (by rw [rE_solid rfl]; exact h') rfl, fun _ w => absurd w (by simp [boolE])⟩
    · cases h
  | .dget i k d, n, c, sc, X, W, e, G, h => by
    unfold okE at h
    split at h
    · simp only [Bool.and_eq_true, Bool.not_eq_true'] at h
      obtain ⟨⟨⟨⟨⟨⟨⟨⟨h1, h2⟩, h3⟩, h4⟩, h5⟩, h6⟩, h7⟩, h8⟩, h9⟩ := h
      obtain rfl := beq_iff_eq.mp h1
      exact .plain G.hK rfl rfl rfl (snd_dget G h2 h3 h4 h5 ((sE k G h6).data h7) ((sE d G h8).data h9))
    · cases h
  | .rng _, n, c, sc, X, W, e, G, h => by simp [okE] at h
  | .comp2 l t it t1 it1 cond own own1, n, c, sc, X, W, e, G, h => by
    unfold okE at h
    split at h
    · simp only [Bool.and_eq_true, Bool.not_eq_true'] at h
      obtain ⟨⟨⟨⟨⟨⟨⟨⟨⟨⟨⟨⟨h1, h2⟩, h3⟩, h4⟩, h5⟩, h6⟩, h7⟩, h8⟩, h9⟩, h10⟩, h11⟩, h12⟩, h13⟩ := h
      have key : PE X _ (tN c W (evalN (run tb.prog n) (.comp2 l t it t1 it1 cond own own1))) := snd_comp2 (pos := by assumption) G (sI it G h1) h2 h3 h4 h5 h6 h7 (fun D s H C cl fp => sI it1 (G.blk D) h8) (fun D s H C cl fp => sC cond (G.blk D) h9) (fun D s H C cl fp => (sE l (G.blk D) h10).data h11) (set_free h12) (fun _ => set_free h13)
      have hl : ∀ sl d sl', evalE (run tb.prog n) (.comp2 l t it t1 it1 cond own own1) sl = .ok d sl' → ∃ ds, d = .list ds := fun sl d sl' e => by
        rw [evalE_comp2] at e
        obtain ⟨xs, sl1, _, e⟩ := R.bind_ok_iff e
        split at e
        · obtain ⟨ys, sl2, _, e⟩ := R.bind_ok_iff e
          cases e
          exact ⟨ys, rfl⟩
        · cases e
      have h' := pe_data hl key
      exact ⟨by rw [rE_solid rfl]; exact h', fun _ => key, fun z => test_plain G.hK (by rw [rE_solid rfl]; exact h') z, fun _ w => absurd w (by simp [boolE])⟩
    · cases h
  | .scomp2 _ _ _ _ _ _ _ _, n, c, sc, X, W, e, G, h => by simp [okE] at h
  | .dcomp _ _ _ _ _ _, n, c, sc, X, W, e, G, h => by simp [okE] at h
theorem sO : ∀ (o : Ol) {n : Nat} {c : Cfg} {sc : Scope} {X : Cx} {W : WX} {e : Option Expr}, Good tb n c N sc X W → okO tb N o sc e = true → PO X e (tOi c W (evalOl (run tb.prog n) o))
  | .none, n, c, sc, X, W, e, G, h => by
    unfold okO at h
    cases e with
    | none => exact po_n
    | some _ => cases h
  | .some a, n, c, sc, X, W, e, G, h => by
    unfold okO at h
    split at h
    · simp only [Bool.and_eq_true] at h
      exact po_s ((sE a G h.1).data h.2)
    · cases h
theorem sZ : ∀ (z : Z) {n : Nat} {c : Cfg} {sc : Scope} {X : Cx} {W : WX} {e : Expr}, Good tb n c N sc X W → okZ tb N z sc e = true → PE X e (tM c W (evalZ (run tb.prog n) z) (rZ c.K))
  | .val a, n, c, sc, X, W, e, G, h => by
    unfold okZ at h
    simp only [Bool.and_eq_true] at h
    exact snd_zval ((sE a G h.1.1).data h.1.2)
  | .ref i, n, c, sc, X, W, e, G, h => by
    unfold okZ at h
    split at h
    · exact snd_zref G h
    · cases h
  | .new, n, c, sc, X, W, e, G, h => by simp [okZ] at h
theorem sLs : ∀ (es : Ls) {n : Nat} {c : Cfg} {sc : Scope} {X : Cx} {W : WX} {xs : List Expr}, Good tb n c N sc X W → okLs tb N es sc xs = true → PA X xs (tMs c W (evalLs (run tb.prog n) es) (rPs c.K))
  | .nil, n, c, sc, X, W, xs, G, h => by
    unfold okLs at h
    obtain rfl := List.isEmpty_iff.mp h
    exact snd_nil
  | .cons a r, n, c, sc, X, W, xs, G, h => by
    unfold okLs at h
    split at h
    · simp only [Bool.and_eq_true, Bool.not_eq_true'] at h
      obtain ⟨⟨⟨h1, h2⟩, h3⟩, h4⟩ := h
      exact snd_cons h3 ((sE a G h1).data h2) (sLs r G h4)
    · cases h
theorem sAs : ∀ (es : As) {n : Nat} {c : Cfg} {sc : Scope} {X : Cx} {W : WX} {xs : List Expr}, Good tb n c N sc X W → okAs tb N es sc xs = true → PA X xs (tMs c W (evalAs (run tb.prog n) es) (rZs c.K))
  | .nil, n, c, sc, X, W, xs, G, h => by
    unfold okAs at h
    obtain rfl := List.isEmpty_iff.mp h
    exact snd_anil
  | .cons z r, n, c, sc, X, W, xs, G, h => by
    unfold okAs at h
    split at h
    · simp only [Bool.and_eq_true] at h
      exact snd_acons (sStar1 z h.1) (sZ z G h.1) (sAs r G h.2)
    · cases h
theorem sC : ∀ (o : Ol) {n : Nat} {c : Cfg} {sc : Scope} {X : Cx} {W : WX} {xs : List Expr}, Good tb n c N sc X W → okC tb N o sc xs = true → PTs X xs (tMb c W (evalC (run tb.prog n) o))
  | .none, n, c, sc, X, W, xs, G, h => by
    unfold okC at h
    obtain rfl := List.isEmpty_iff.mp h
    exact tst_comp_none
  | .some a, n, c, sc, X, W, xs, G, h => by
    unfold okC at h
    split at h
    · simp only [Bool.and_eq_true] at h
      exact tst_comp_some ((sE a G h.1).pt h.2)
    · cases h
theorem sI : ∀ (it : I) {n : Nat} {c : Cfg} {sc : Scope} {X : Cx} {W : WX} {tg e : Expr}, Good tb n c N sc X W → okI tb N it sc tg e = true → PI X tg e (tI c W (evalI (run tb.prog n) it))
  | .seq a, n, c, sc, X, W, tg, e, G, h => by
    unfold okI at h
    simp only [Bool.and_eq_true] at h
    exact snd_seq G.hK ((sE a G h.1).data h.2)
  | .range1 a, n, c, sc, X, W, tg, e, G, h => by
    unfold okI at h
    split at h
    · simp only [Bool.and_eq_true, Bool.not_eq_true'] at h
      obtain ⟨⟨⟨⟨h1, h2⟩, h3⟩, h4⟩, h5⟩ := h
      obtain rfl := beq_iff_eq.mp h1
      exact snd_range1 G h2 h5 ((sE a G h3).data h4)
    · cases h
  | .range2 a b, n, c, sc, X, W, tg, e, G, h => by
    unfold okI at h
    split at h
    · simp only [Bool.and_eq_true, Bool.not_eq_true'] at h
      obtain ⟨⟨⟨⟨⟨⟨⟨h1, h2⟩, h3⟩, h4⟩, h5⟩, h6⟩, h7⟩, h8⟩ := h
      obtain rfl := beq_iff_eq.mp h1
      exact snd_range2 G h2 h5 h8 ((sE a G h3).data h4) ((sE b G h6).data h7)
    · cases h
  | .zip a b, n, c, sc, X, W, tg, e, G, h => by
    unfold okI at h
    split at h
    · simp only [Bool.and_eq_true, Bool.not_eq_true'] at h
      obtain ⟨⟨⟨⟨⟨⟨⟨⟨h1, h2⟩, h3⟩, h4⟩, h5⟩, h6⟩, h7⟩, h8⟩, h9⟩ := h
      obtain rfl := beq_iff_eq.mp h1
      unfold isTupE at h9
      split at h9
      · exact snd_zip G h2 h5 h8 ((sE a G h3).data h4) ((sE b G h6).data h7)
      · cases h9
    · cases h
  | .enum a, n, c, sc, X, W, tg, e, G, h => by
    unfold okI at h
    split at h
    · simp only [Bool.and_eq_true, Bool.not_eq_true'] at h
      obtain ⟨⟨⟨⟨⟨h1, h2⟩, h3⟩, h4⟩, h5⟩, h9⟩ := h
      obtain rfl := beq_iff_eq.mp h1
      unfold isTupE at h9
      split at h9
      · exact snd_enum G h2 h5 ((sE a G h3).data h4)
      · cases h9
    · cases h
  | .enumz _ _, n, c, sc, X, W, tg, e, G, h => by simp [okI] at h
  | .items _, n, c, sc, X, W, tg, e, G, h => by simp [okI] at h
  | .values _, n, c, sc, X, W, tg, e, G, h => by simp [okI] at h
end
end
end Rf
end
section
set_option linter.all false
set_option maxRecDepth 100000
set_option maxHeartbeats 1000000
namespace Rf
open PySem PySem.Spec PyProof.Rows L2
def compE : Expr → Bool
  | .ListComp _ _ _ _ => true
  | .SetComp _ _ _ _ => true
  | .DictComp _ _ _ _ _ => true
  | _ => false
theorem sw_no {v : Expr} {t : Option Expr} {l : Nat} {env : Env} (h : compE v = false) : swapsWith v t l env = pure false := by
  cases v <;> first
    | rfl
    | (cases h; done)
    | (cases (show true = false from h))
/-- the name is swapped by the block -/
def swB (sc : Scope) : Expr → Expr → Bool
  | .ListComp _ _ scope pos, .Name y py => sc.names.lookup y == some .local && (py.line == pos.line) && !(scope.names.any fun (n, k) => n == y && (k == .local || k == .cell))
  | _, _ => false
def lcB : Expr → Bool
  | .ListComp _ _ _ _ => true
  | _ => false
theorem sw_lc {sc : Scope} {v tg : Expr} {l : Nat} {env : Env} (hs : env.scope = sc) (hk : sc.kind = .function) (h : swB sc v tg = false) (hl : lcB v = true) (ht : ∃ y py, tg = .Name y py) : swapsWith v (some tg) l env = pure false := by
  subst hs
  obtain ⟨y, py, rfl⟩ := ht
  cases v <;> first
    | (cases hl; done)
    | skip
  rename_i elt gs scope pos
  have hb : env.blockKind = .function := by unfold Env.blockKind; rw [hk]; rfl
  unfold swapsWith
  have h : (env.scope.names.lookup y == some .local && (py.line == pos.line) && !(scope.names.any fun (n, k) => n == y && (k == .local || k == .cell))) = false := h
  show (pure (env.blockKind == .function && env.scope.names.lookup y == some .local && py.line == pos.line && !(scope.names.any fun (n, k) => n == y && (k == .local || k == .cell))) : Sem Bool) = pure false
  rw [hb]
  show (pure (true && env.scope.names.lookup y == some .local && py.line == pos.line && !(scope.names.any fun (n, k) => n == y && (k == .local || k == .cell))) : Sem Bool) = pure false
  rw [Bool.true_and, h]
def tupB : Expr → Bool
  | .Tuple _ _ _ => true
  | _ => false
theorem sws_no {ts : List Expr} {v : Expr} {env : Env} (h : tupB v = false) : swappedStores ts v env = pure none := by
  match ts with
  | [] => rfl
  | [t] => cases t <;> first
    | rfl
    | (cases v <;> first
        | rfl
        | (cases h; done)
        | (cases (show true = false from h)))
  | a :: _ :: _ => cases a <;> rfl
/-- the values' flags -/
def parFl : List (Nat × Bool) → Ls → Bool
  | [], .nil => true
  | (_, b) :: ts, .cons l r => (if b then newB l else solid l) && parFl ts r
  | _, _ => false
section
variable (tb : Tab) (N : List Str)
def okPs : List (Nat × Bool) → Ls → Scope → List Expr → Bool
  | [], .nil, _, es => es.isEmpty
  | (_, b) :: ts, .cons l r, sc, es => match es with
    | e :: es => okE tb N l sc e && (if b then newB l else solid l) && !starB e && okPs ts r sc es
    | [] => false
  | _, _, _, _ => false
def okPar (ts : List (Nat × Bool)) (es : Ls) (sc : Scope) : Stmt → Bool
  | .Assign [.Tuple ns _ _] (.Tuple vs _ _) _ => okPs tb N ts es sc vs && okNms N sc (ts.map (·.1)) ns && (match swS ns vs sc with
    | some none => true
    | some (some xs) => xs == (ns.filterMap fun e => match e with | .Name x _ => some x | _ => none) && ns.all (fun e => (match e with | .Name x _ => sc.names.lookup x | _ => none) == some .local) && decide (ts.map (·.1)).Nodup && (ns.length == 2 || ns.length == 3)
    | none => false) && decide (ts.length ≤ 3)
  | _ => false
mutual
def okS : S → Scope → Stmt → Bool
  | .asg t e, sc, st => match st with
    | .Assign [tg] v _ => match t with
      | .nm i => okNm N sc i tg && okE tb N e sc v && solid e && (!compE v || lcB v)
      | t => okT N sc t tg && okE tb N e sc v && solid e && !compE v && !tupB v && !starB tg
    | _ => false
  | .asgC i e, sc, st => match st with
    | .Assign [tg] v _ => okNm N sc i tg && okE tb N e sc v && newB e && (!compE v || lcB v)
    | _ => false
  | .par ts es, sc, st => okPar tb N ts es sc st
  | .setD i k v, sc, st => match st with
    | .Assign [.Subscript (.Name x _) ix _] e _ => nameB N sc i x && okE tb N k sc ix && solid k && okE tb N v sc e && solid v && !compE e
    | _ => false
  | .setI i k v, sc, st => match st with
    | .Assign [.Subscript (.Name x _) ix _] e _ => nameB N sc i x && !sliceB ix && okE tb N k sc ix && solid k && okE tb N v sc e && solid v && !tupB e && !compE e
    | _ => false
  | .aug i e, sc, st => match st with
    | .AugAssign tg .Add v _ => okNm N sc i tg && okE tb N e sc v && solid e
    | _ => false
  | .app i e, sc, st => match st with
    | .Expr (.Call (.Attribute (.Name x _) m apos) [v] [] cpos) _ => m == ("append" : Str) && nameB N sc i x && linesB apos cpos && !starB v && okE tb N e sc v && solid e
    | _ => false
  | .ext i e, sc, st => match st with
    | .Expr (.Call (.Attribute (.Name x _) m apos) [v] [] cpos) _ => m == ("extend" : Str) && nameB N sc i x && linesB apos cpos && !starB v && okE tb N e sc v && newB e
    | _ => false
  | .ins i a e, sc, st => match st with
    | .Expr (.Call (.Attribute (.Name x _) m apos) [w, v] [] cpos) _ => m == ("insert" : Str) && nameB N sc i x && linesB apos cpos && !starB w && !starB v && okE tb N a sc w && solid a && okE tb N e sc v && solid e
    | _ => false
  | .expr e, sc, st => match st with
    | .Expr v _ => okE tb N e sc v && solid e && !compE v
    | _ => false
  | .ite c a b, sc, st => match st with
    | .If e p q _ => okE tb N c sc e && tstB tb N c e && okSs a sc p && okSs b sc q
    | _ => false
  | .for_ t it body, sc, st => match st with
    | .For tg iter p [] _ => okT N sc t tg && okI tb N it sc tg iter && okSs body sc p && !setB iter
    | _ => false
  | .while_ c body, sc, st => match st with
    | .While e p [] _ => okE tb N c sc e && tstB tb N c e && okSs body sc p
    | _ => false
  | .ret e, sc, st => match st with
    | .Return (some v) _ => okE tb N e sc v && solid e
    | _ => false
  | .retN, sc, st => match st with
    | .Return none _ => true
    | _ => false
  | .raise c, sc, st => match st with
    | .Raise (some (.Call (.Name x _) [] [] _)) none _ => tb.ename c == some x && glB sc x && dbgB x
    | _ => false
  | .try_ body hs, sc, st => match st with
    | .Try p (h :: hds) [] [] _ => okSs body sc p && okH N tb sc hs (h :: hds)
    | _ => false
  | .brk, sc, st => match st with
    | .Break _ => true
    | _ => false
  | .pass, sc, st => match st with
    | .Pass _ => true
    | _ => false
  | _, _, _ => false
def okSs : Ss → Scope → List Stmt → Bool
  | .nil, _, sts => sts.isEmpty
  | .cons s r, sc, sts => (match sts with
    | st :: sts => okS s sc st && okSs r sc sts
    | [] => false) || (match s with
    | .rows i w nn t it k e v body => match sts with
      | s1 :: s2 :: s3 :: sts => (match s1 with
        | .Assign [.Name y py] (.ListComp (.List [] _) [⟨.Name wx pw, .Call (.Name rg _) [en] [] _, [], 0⟩] scope pos) _ => okNm N sc i (.Name y py) && (sc.names.lookup y == some .local) && (py.line == pos.line) && !(scope.names.any fun (n, k) => n == y && (k == .local || k == .cell)) && rg == ("range" : Str) && glB sc rg && !starB en && okE tb N nn sc en && solid nn && blkC N sc scope (ownP N [w]) && okT N scope (.nm w) (.Name wx pw) &&
          (match s2 with
          | .For tg iter [.Expr (.Call (.Attribute (.Subscript (.Name y2 _) kx _) m apos) [ex] [] cpos) _] [] _ => y2 == y && nameB N sc i y && okT N sc t tg && okI tb N it sc tg iter && !setB iter && !sliceB kx && okE tb N k sc kx && solid k && !starB ex && okE tb N e sc ex && solid e && m == ("append" : Str) && linesB apos cpos &&
            (match s3 with
            | .For (.Name vx pv) (.Name y3 _) b3 [] _ => y3 == y && okNm N sc v (.Name vx pv) && okSs body sc b3
            | _ => false)
          | _ => false)
        | _ => false) && okSs r sc sts
      | _ => false
    | _ => false)
end
end

section
variable {tb : Tab} {N : List Str}
theorem okPs_len : ∀ {ts : List (Nat × Bool)} {l : Ls} {sc : Scope} {es : List Expr}, okPs tb N ts l sc es = true → lsLen l = ts.length
  | [], .nil, sc, es, h => rfl
  | [], .cons _ _, sc, es, h => by simp [okPs] at h
  | _ :: _, .nil, sc, es, h => by simp [okPs] at h
  | (_, b) :: ts, .cons l r, sc, es, h => by
    unfold okPs at h
    split at h
    · simp only [Bool.and_eq_true] at h
      show lsLen r + 1 = _
      rw [okPs_len h.2]
      rfl
    · cases h
theorem Good.pend {n : Nat} {c : Cfg} {sc : Scope} {X : Cx} {W : WX} (G : Good tb n c N sc X W) (A : Addr → Prop) : Good tb n (c.pend A) N sc X W :=
  ⟨G.hK, G.hN, G.nd, G.hsc, G.calm, G.room, G.tk, fun f x h => ⟨(G.fn f x h).ex⟩, G.blt, fun g x h => ⟨(G.glb g x h).ex⟩, fun x h => ⟨(G.sgn x h).ex⟩⟩
theorem sPs : ∀ {ts : List (Nat × Bool)} {l : Ls} {n : Nat} {c : Cfg} {sc : Scope} {X : Cx} {W : WX} {es : List Expr}, Good tb n c N sc X W → okPs tb N ts l sc es = true → PA X es (tPs c W (run tb.prog n) (ts.map (·.2)) l)
  | [], .nil, n, c, sc, X, W, es, G, h => by
    unfold okPs at h
    obtain rfl := List.isEmpty_iff.mp h
    exact pas_nil
  | [], .cons _ _, n, c, sc, X, W, es, G, h => by simp [okPs] at h
  | _ :: _, .nil, n, c, sc, X, W, es, G, h => by simp [okPs] at h
  | (_, b) :: ts, .cons l r, n, c, sc, X, W, es, G, h => by
    unfold okPs at h
    split at h
    · simp only [Bool.and_eq_true, Bool.not_eq_true'] at h
      obtain ⟨⟨⟨h1, h2⟩, h3⟩, h4⟩ := h
      cases b with
      | true => exact pas_new h3 (fun A => (sE l (G.pend A) h1).pn h2) (sPs G h4)
      | false => exact pas_data h3 (fun A => (sE l (G.pend A) h1).data h2) (sPs G h4)
    · cases h
/-- name = [..], as data or as an object -/
theorem sLc {n : Nat} {c : Cfg} {sc : Scope} {X : Cx} {W : WX} (G : GoodS tb n c N sc X W) (hk : sc.kind = .function) {e : L} {v tg : Expr} {i : Nat} {pos : Pos} {f : Sl → F} (hn : okNm N sc i tg = true) (h : okE tb N e sc v = true) (hl : lcB v = true) (hsw : swB sc v tg = true)
    (himp : ∀ {D : Ends} {σ : L2.St} {H : Hp}, newB e = true → (∀ kvs, e ≠ .dict kvs) → (∀ sl d sl', evalE (run tb.prog n) e sl = .ok d sl' → ∃ ds, d = .list ds) → tS c W f D σ H → tN c W (evalN (run tb.prog n) e) σ H fun v H1 => gName i v σ H1 D.nx) : PS X (.Assign [tg] v pos) (tS c W f) := by
  cases v <;> first
    | (cases hl; done)
    | skip
  rename_i elt gs scope p
  obtain ⟨y, py, rfl, n1, n2⟩ := okNm_name hn
  cases e <;> first
    | (simp [okE] at h; done)
    | skip
  case comp l t it cond own =>
    unfold okE at h
    split at h
    · rename_i e1
      cases e1
      simp only [Bool.and_eq_true, Bool.not_eq_true'] at h
      obtain ⟨⟨⟨⟨⟨⟨⟨h1, h2⟩, h3⟩, h4⟩, h5⟩, h6⟩, h7⟩, h8⟩ := h
      unfold swB at hsw
      simp only [Bool.and_eq_true, Bool.not_eq_true'] at hsw
      obtain ⟨⟨s1, s2⟩, s3⟩ := hsw
      have ok : BlkOk X.N X.env.scope scope (ownP N own) := by rw [G.G.hN, G.G.hsc]; exact blkOk_by h2
      refine sta_comp (m := fun _ => .stuck) (tt := fun σ H Q => ∃ D, tMb (c.blk D) Wn (evalC (run tb.prog n) cond) σ H Q) (te := fun σ H Q => ∃ D, tM (c.blk D) Wn (evalE (run tb.prog n) l) (rP c.K) σ H Q) G n1 (beq_iff_eq.mp s1) s2 s3 hk (sI it G.G h1) ok (fun s H C cl fp => by
          have := snd_tgt (G.G.store (s := s) (H := H) (scope := scope) (C := C) (cl := cl) (fp := fp)) h3
          rw [show (X.blk s H scope (compEnvC scope cl C X.env) fp).K = c.K from G.G.hK] at this
          exact this)
        (fun s H C cl fp => ⟨fun pins s' σ H' Q I ⟨D, q⟩ => (sC cond (G.G.blk D) h5).run pins s' σ H' Q I q⟩) (fun s H C cl fp => ⟨fun pins s' σ H' Q I ⟨D, q⟩ => ((sE l (G.G.blk D) h6).data h7).run pins s' σ H' Q I q⟩) (set_free h8) fun D σ H q => ?_
      rw [ownP_snd]
      refine comp_imp h4 (himp rfl (fun _ => nofun) (fun sl d sl' e => ?_) q)
      rw [evalE_comp] at e
      obtain ⟨xs, sl1, _, e⟩ := R.bind_ok_iff e
      split at e
      · obtain ⟨ys, sl2, _, e⟩ := R.bind_ok_iff e
        cases e
        exact ⟨ys, rfl⟩
      · cases e
    · cases h
  case comp2 l t it t1 it1 cond own own1 =>
    unfold okE at h
    split at h
    · rename_i e1
      cases e1
      simp only [Bool.and_eq_true, Bool.not_eq_true'] at h
      obtain ⟨⟨⟨⟨⟨⟨⟨⟨⟨⟨⟨⟨h1, h2⟩, h3⟩, h4⟩, h5⟩, h6⟩, h7⟩, h8⟩, h9⟩, h10⟩, h11⟩, h12⟩, h13⟩ := h
      unfold swB at hsw
      simp only [Bool.and_eq_true, Bool.not_eq_true'] at hsw
      obtain ⟨⟨s1, s2⟩, s3⟩ := hsw
      have ok : BlkOk X.N X.env.scope scope (ownP N own) := by rw [G.G.hN, G.G.hsc]; exact blkOk_by h2
      have tgt : ∀ {t : T} {tg : Expr}, okT N scope t tg = true → ∀ (s : Shared) (H : Hp) (C : Addr) (cl : List (Str × Addr)) (fp : List Addr), PG (X.blk s H scope (compEnvC scope cl C X.env) fp) tg (gT c.K t) := fun h s H C cl fp => by
        have := snd_tgt (G.G.store (s := s) (H := H) (scope := scope) (C := C) (cl := cl) (fp := fp)) h
        rw [show (X.blk s H scope (compEnvC scope cl C X.env) fp).K = c.K from G.G.hK] at this
        exact this
      refine PS.imp (ps_setLc2 (vs1 := own1) (tt := fun _ H Q => Q true H) (wi1 := fun σ H R => ∃ D, tI (c.blk D) Wn (evalI (run tb.prog n) it1) σ H R) (tt1 := fun σ H Q => ∃ D, tMb (c.blk D) Wn (evalC (run tb.prog n) cond) σ H Q) (te := fun σ H Q => ∃ D, tM (c.blk D) Wn (evalE (run tb.prog n) l) (rP c.K) σ H Q) G.G.calm G.store.nd (by rw [G.store.hN]; exact n1) (by rw [G.G.hsc]; exact beq_iff_eq.mp s1) (sw_true (by rw [G.G.hsc]; exact hk) (by rw [G.G.hsc]; exact beq_iff_eq.mp s1) s2 s3) (sI it G.G h1) ok
        (fun i hi => by rw [ownP_snd]; exact of_decide_eq_true (List.all_eq_true.mp h7 i hi)) (tgt h3) (fun s H C cl fp => pts_nil)
        (fun s H C cl fp => ⟨fun pins s' σ H' R I ⟨D, q⟩ => (sI it1 (G.G.blk D) h8).run pins s' σ H' R I q⟩) (tgt h4)
        (fun s H C cl fp => ⟨fun pins s' σ H' Q I ⟨D, q⟩ => (sC cond (G.G.blk D) h9).run pins s' σ H' Q I q⟩) (fun s H C cl fp => ⟨fun pins s' σ H' Q I ⟨D, q⟩ => ((sE l (G.G.blk D) h10).data h11).run pins s' σ H' Q I q⟩) (set_free h12) (fun _ => set_free h13)) fun D σ H q => ?_
      rw [ownP_snd]
      refine comp2_imp h5 h6 h7 (himp rfl (fun _ => nofun) (fun sl d sl' e => ?_) q)
      rw [evalE_comp2] at e
      obtain ⟨xs, sl1, _, e⟩ := R.bind_ok_iff e
      split at e
      · obtain ⟨ys, sl2, _, e⟩ := R.bind_ok_iff e
        cases e
        exact ⟨ys, rfl⟩
      · cases e
    · cases h
  case bi b as =>
    unfold okE at h
    split at h
    · split at h
      · rename_i e1; cases e1
      · cases h
    · split at h
      · rename_i e1; cases e1
      · cases h
    · split at h
      · rename_i e1; cases e1
      · cases h
end
end Rf
end
section
set_option linter.all false
set_option maxRecDepth 100000
set_option maxHeartbeats 1000000
namespace Rf
open PySem PySem.Spec PyProof.Rows L2
section
variable {tb : Tab} {N : List Str}
theorem ExcRec.tr {c : Cfg} {X : Cx} {e : Nat} {x : Str} (h : ExcRec tb c X e x) (pn : List (Addr × Obj)) (xe : Value → Shared → Prop) : ExcRec tb c (X.tr pn xe) e x := ⟨h.ex, h.met⟩
theorem sws1 {t v : Expr} {l : Nat} {env : Env} (h : swapsWith v (some t) l env = pure false) : swapsWithSole [t] v l env = pure false := by
  unfold swapsWithSole
  exact h
theorem sPar {n : Nat} {c : Cfg} {sc : Scope} {X : Cx} {W : WX} (G : GoodS tb n c N sc X W) (hk : sc.kind = .function) {ts : List (Nat × Bool)} {l : Ls} {st : Stmt} (h : okPar tb N ts l sc st = true) : PS X st (tS c W (evalS (run tb.prog n) (.par ts l))) := by
  unfold okPar at h
  split at h
  · rename_i ns k pt vs k2 p2 pos
    simp only [Bool.and_eq_true, decide_eq_true_eq] at h
    obtain ⟨⟨⟨h1, h2⟩, h3⟩, h4⟩ := h
    have hl := okPs_len h1
    have pa := sPs G.G h1
    split at h3
    · rename_i hsw
      exact sta_parT G h2 hl hk pa (Nat.le_trans h4 (by decide)) hsw
    · rename_i xs hsw
      simp only [Bool.and_eq_true, Bool.or_eq_true, decide_eq_true_eq] at h3
      obtain ⟨⟨⟨g1, g2⟩, g3⟩, g4⟩ := h3
      have g1 := beq_iff_eq.mp g1
      subst g1
      have lens : ∀ {is : List Nat} {es : List Expr}, okNms N sc is es = true → is.length = es.length := by
        intro is
        induction is with
        | nil => intro es h; cases es with
          | nil => rfl
          | cons _ _ => simp [okNms] at h
        | cons i is ih => intro es h; cases es with
          | nil => simp [okNms] at h
          | cons e es => simp only [okNms, Bool.and_eq_true] at h; simp [ih h.2]
      have plen : ∀ {ts : List (Nat × Bool)} {l : Ls} {es : List Expr}, okPs tb N ts l sc es = true → es.length = ts.length := by
        intro ts
        induction ts with
        | nil =>
          intro l es h
          cases l with
          | nil => unfold okPs at h; rw [List.isEmpty_iff.mp h]; rfl
          | cons _ _ => simp [okPs] at h
        | cons t ts ih =>
          intro l es h
          cases l with
          | nil => simp [okPs] at h
          | cons a r =>
            unfold okPs at h
            split at h
            · simp only [Bool.and_eq_true] at h
              simp [ih h.2]
            · cases h
      have e1 := lens h2
      rw [List.length_map] at e1
      have e2 := plen h1
      match ns, vs, ts, g4, e1, e2, h1, h2, hl, pa, g2, g3, hsw with
      | [t1, t2], [a, b], [(i, b1), (j, b2)], _, _, _, h1, h2, hl, pa, g2, g3, hsw =>
        simp only [okNms, List.map_cons, List.map_nil, Bool.and_eq_true] at h2
        simp only [List.all_cons, List.all_nil, Bool.and_eq_true, beq_iff_eq] at g2
        refine sta_par2 G h2.1 h2.2.1 (fun e => ?_) hl hk pa (fun _ => g2.1) g2.2.1 hsw
        subst e
        simp at g3
      | [t1, t2, t3], [a, b, d], [(i, b1), (j, b2), (m, b3)], _, _, _, h1, h2, hl, pa, g2, g3, hsw =>
        simp only [okNms, List.map_cons, List.map_nil, Bool.and_eq_true] at h2
        simp only [List.all_cons, List.all_nil, Bool.and_eq_true, beq_iff_eq] at g2
        simp only [List.map_cons, List.map_nil, List.nodup_cons, List.mem_cons, List.not_mem_nil, or_false, not_or] at g3
        exact sta_par3 G h2.1 h2.2.1 h2.2.2.1 g3.1.1 g3.1.2 g3.2.1 hl hk pa g2.1 g2.2.1 g2.2.2.1 hsw
      | [], _, _, g4, _, _, _, _, _, _, _, _, _ => simp at g4
      | [_], _, _, g4, _, _, _, _, _, _, _, _, _ => simp at g4
      | _ :: _ :: _ :: _ :: _, _, _, g4, _, _, _, _, _, _, _, _, _ => simp at g4
    · cases h3
  · cases h
mutual
theorem sS : ∀ (s : S) {n : Nat} {c : Cfg} {sc : Scope} {X : Cx} {W : WX} {st : Stmt}, GoodS tb n c N sc X W → sc.kind = .function → (∀ e x, tb.ename e = some x → ExcRec tb c X e x) → okS tb N s sc st = true → PS X st (tS c W (evalS (run tb.prog n) s))
  | .asg t e, n, c, sc, X, W, st, G, hk, ex, h => by
    unfold okS at h
    split at h
    · rename_i tg v pos
      split at h
      · rename_i i
        simp only [Bool.and_eq_true, Bool.or_eq_true, Bool.not_eq_true'] at h
        obtain ⟨⟨⟨h1, h2⟩, h3⟩, h4⟩ := h
        have pe := (sE e G.G h2).data h3
        rcases h4 with h4 | h4
        · exact sta_asg G h1 pe (sw_no h4)
        · by_cases hs : swB sc v tg = true
          · exact sLc G hk h1 h2 h4 hs fun hn hd hl q => tN_of (e := v) hd hl (asg_nm q)
          · obtain ⟨y, py, hy, _⟩ := okNm_name h1
            exact sta_asg G h1 pe (sw_lc G.G.hsc hk (by simpa using hs) h4 ⟨y, py, hy⟩)
      · simp only [Bool.and_eq_true, Bool.not_eq_true'] at h
        obtain ⟨⟨⟨⟨⟨h1, h2⟩, h3⟩, h4⟩, h5⟩, h6⟩ := h
        exact sta_tup G h1 ((sE e G.G h2).data h3) (sw_no h4) (sws_no h5) h6
    · cases h
  | .asgC i e, n, c, sc, X, W, st, G, hk, ex, h => by
    unfold okS at h
    split at h
    · rename_i tg v pos
      simp only [Bool.and_eq_true, Bool.or_eq_true, Bool.not_eq_true'] at h
      obtain ⟨⟨⟨h1, h2⟩, h3⟩, h4⟩ := h
      have pn := (sE e G.G h2).pn h3
      rcases h4 with h4 | h4
      · exact sta_new G h1 pn (sw_no h4)
      · by_cases hs : swB sc v tg = true
        · exact sLc G hk h1 h2 h4 hs fun hn hd hl q => asg_new q
        · obtain ⟨y, py, hy, _⟩ := okNm_name h1
          exact sta_new G h1 pn (sw_lc G.G.hsc hk (by simpa using hs) h4 ⟨y, py, hy⟩)
    · cases h
  | .par ts es, n, c, sc, X, W, st, G, hk, ex, h => by
    unfold okS at h
    exact sPar G hk h
  | .setI i k v, n, c, sc, X, W, st, G, hk, ex, h => by
    unfold okS at h
    split at h
    · simp only [Bool.and_eq_true, Bool.not_eq_true'] at h
      obtain ⟨⟨⟨⟨⟨⟨⟨h1, h2⟩, h3⟩, h4⟩, h5⟩, h6⟩, h7⟩, h8⟩ := h
      exact sta_setI G h1 h2 ((sE k G.G h3).data h4) ((sE v G.G h5).data h6) (sws1 (sw_no h8)) (sws_no h7)
    · cases h
  | .setD i k v, n, c, sc, X, W, st, G, hk, ex, h => by
    unfold okS at h
    split at h
    · simp only [Bool.and_eq_true, Bool.not_eq_true'] at h
      obtain ⟨⟨⟨⟨⟨h1, h3⟩, h4⟩, h5⟩, h6⟩, h8⟩ := h
      exact sta_setD G h1 ((sE k G.G h3).data h4) ((sE v G.G h5).data h6) (sw_no h8)
    · cases h
  | .aug i e, n, c, sc, X, W, st, G, hk, ex, h => by
    unfold okS at h
    split at h
    · simp only [Bool.and_eq_true] at h
      exact sta_aug G h.1.1 ((sE e G.G h.1.2).data h.2)
    · cases h
  | .app i e, n, c, sc, X, W, st, G, hk, ex, h => by
    unfold okS at h
    split at h
    · simp only [Bool.and_eq_true, Bool.not_eq_true'] at h
      obtain ⟨⟨⟨⟨⟨h1, h2⟩, h3⟩, h4⟩, h5⟩, h6⟩ := h
      obtain rfl := beq_iff_eq.mp h1
      exact sta_app G h2 h3 h4 ((sE e G.G h5).data h6)
    · cases h
  | .ext i e, n, c, sc, X, W, st, G, hk, ex, h => by
    unfold okS at h
    split at h
    · simp only [Bool.and_eq_true, Bool.not_eq_true'] at h
      obtain ⟨⟨⟨⟨⟨h1, h2⟩, h3⟩, h4⟩, h5⟩, h6⟩ := h
      obtain rfl := beq_iff_eq.mp h1
      exact sta_ext G h2 h3 h4 ((sE e G.G h5).pn h6)
    · cases h
  | .ins i a e, n, c, sc, X, W, st, G, hk, ex, h => by
    unfold okS at h
    split at h
    · simp only [Bool.and_eq_true, Bool.not_eq_true'] at h
      obtain ⟨⟨⟨⟨⟨⟨⟨⟨h1, h2⟩, h3⟩, h4⟩, h4'⟩, h5⟩, h6⟩, h7⟩, h8⟩ := h
      obtain rfl := beq_iff_eq.mp h1
      exact sta_ins G h2 h3 h4 h4' ((sE a G.G h5).data h6) ((sE e G.G h7).data h8)
    · cases h
  | .expr e, n, c, sc, X, W, st, G, hk, ex, h => by
    unfold okS at h
    split at h
    · simp only [Bool.and_eq_true, Bool.not_eq_true'] at h
      exact sta_expr ((sE e G.G h.1.1).data h.1.2) (sw_no h.2)
    · cases h
  | .ite e a b, n, c, sc, X, W, st, G, hk, ex, h => by
    unfold okS at h
    split at h
    · simp only [Bool.and_eq_true] at h
      obtain ⟨⟨⟨h1, h2⟩, h3⟩, h4⟩ := h
      exact sta_ite ((sE e G.G h1).pt h2) (sSs a G hk ex h3) (sSs b G hk ex h4)
    · cases h
  | .for_ t it body, n, c, sc, X, W, st, G, hk, ex, h => by
    unfold okS at h
    split at h
    · simp only [Bool.and_eq_true, Bool.not_eq_true'] at h
      obtain ⟨⟨⟨h1, h2⟩, h3⟩, h4⟩ := h
      exact sta_for G h1 (sI it G.G h2) (sSs body G hk ex h3) (set_free h4)
    · cases h
  | .while_ e body, n, c, sc, X, W, st, G, hk, ex, h => by
    unfold okS at h
    split at h
    · simp only [Bool.and_eq_true] at h
      obtain ⟨⟨h1, h2⟩, h3⟩ := h
      exact sta_while G ((sE e G.G h1).pt h2) (sSs body G hk ex h3)
    · cases h
  | .ret e, n, c, sc, X, W, st, G, hk, ex, h => by
    unfold okS at h
    split at h
    · simp only [Bool.and_eq_true] at h
      exact sta_ret ((sE e G.G h.1).data h.2)
    · cases h
  | .retN, n, c, sc, X, W, st, G, hk, ex, h => by
    unfold okS at h
    split at h
    · exact sta_retN
    · cases h
  | .raise e, n, c, sc, X, W, st, G, hk, ex, h => by
    unfold okS at h
    split at h
    · simp only [Bool.and_eq_true] at h
      obtain ⟨⟨h1, h2⟩, h3⟩ := h
      have hd := fun {x : Str} (h : dbgB x = true) => (show (x == ("__debug__" : Str)) = false by unfold dbgB at h; simpa using h)
      exact sta_raise G (ex e _ (beq_iff_eq.mp h1)) h2 (hd h3)
    · cases h
  | .try_ body hs, n, c, sc, X, W, st, G, hk, ex, h => by
    unfold okS at h
    split at h
    · simp only [Bool.and_eq_true] at h
      exact sta_try G ex h.2 fun W' pn xe G' => sSs body G' hk (fun e x q => (ex e x q).tr pn xe) h.1
    · cases h
  | .brk, n, c, sc, X, W, st, G, hk, ex, h => by
    unfold okS at h
    split at h
    · exact sta_brk
    · cases h
  | .pass, n, c, sc, X, W, st, G, hk, ex, h => by
    unfold okS at h
    split at h
    · exact sta_pass
    · cases h
  | .setS _ _ _ _, n, c, sc, X, W, st, G, hk, ex, h => by simp [okS] at h
  | .upd _ _, n, c, sc, X, W, st, G, hk, ex, h => by simp [okS] at h
  | .rows _ _ _ _ _ _ _ _ _, n, c, sc, X, W, st, G, hk, ex, h => by simp [okS] at h
theorem sSs : ∀ (s : Ss) {n : Nat} {c : Cfg} {sc : Scope} {X : Cx} {W : WX} {st : List Stmt}, GoodS tb n c N sc X W → sc.kind = .function → (∀ e x, tb.ename e = some x → ExcRec tb c X e x) → okSs tb N s sc st = true → PSs X st (tS c W (evalSs (run tb.prog n) s))
  | .nil, n, c, sc, X, W, st, G, hk, ex, h => by
    unfold okSs at h
    obtain rfl := List.isEmpty_iff.mp h
    exact sts_nil
  | .cons s r, n, c, sc, X, W, st, G, hk, ex, h => by
    unfold okSs at h
    rcases (Bool.or_eq_true _ _).mp h with h | h
    · split at h
      · simp only [Bool.and_eq_true] at h
        exact sts_cons (sS s G hk ex h.1) (sSs r G hk ex h.2)
      · cases h
    · split at h
      · rename_i i w nn t it k e v body hh
        split at h
        · rw [Bool.and_eq_true] at h
          obtain ⟨h, hr⟩ := h
          split at h
          · simp only [Bool.and_eq_true, Bool.not_eq_true'] at h
            obtain ⟨⟨⟨⟨⟨⟨⟨⟨⟨⟨⟨a1, a2⟩, a3⟩, a4⟩, a5⟩, a6⟩, a7⟩, a8⟩, a9⟩, a10⟩, a11⟩, h⟩ := h
            split at h
            · simp only [Bool.and_eq_true, Bool.not_eq_true'] at h
              obtain ⟨⟨⟨⟨⟨⟨⟨⟨⟨⟨⟨⟨⟨b1, b2⟩, b3⟩, b4⟩, b5⟩, b6⟩, b7⟩, b8⟩, b9⟩, b10⟩, b11⟩, b12⟩, b13⟩, h⟩ := h
              split at h
              · simp only [Bool.and_eq_true] at h
                obtain ⟨⟨c1, c2⟩, c3⟩ := h
                obtain rfl := beq_iff_eq.mp b1
                obtain rfl := beq_iff_eq.mp c1
                obtain rfl := beq_iff_eq.mp a5
                obtain rfl := beq_iff_eq.mp b12
                exact sts_rows G hk a1 (beq_iff_eq.mp a2) a3 a4 a6 a7 ((sE nn G.G a8).data a9) a10 a11 b2 b3 (fun a rs => sI it (G.G.rows a rs) b4) (set_free b5) b6 (fun a rs => (sE k (G.G.rows a rs) b7).data b8) b9 (fun a rs => (sE e (G.G.rows a rs) b10).data b11) b13
                  c2 (fun a rs r' => sSs body (G.rowV a rs v r') hk (fun e x he => ⟨(ex e x he).ex, (ex e x he).met⟩) c3) (sSs r G hk ex hr)
              · cases h
            · cases h
          · cases h
        · cases h
      · cases h
end
end
end Rf
end
section
set_option linter.all false
set_option maxRecDepth 100000
set_option maxHeartbeats 1000000
namespace Rf
open PySem PySem.Spec PyProof.Rows L2

theorem zip_some : ∀ {ns : List Str} {us : List Value} {x : Str}, us.length = ns.length → x ∈ ns → ∃ u, (ns.zip us).lookup x = some u
  | [], _, _, _, h => by cases h
  | n :: ns, [], _, hl, _ => by simp at hl
  | n :: ns, u :: us, x, hl, h => by
    rw [List.zip_cons_cons, List.lookup_cons]
    by_cases e : x = n
    · subst e; simp
    · have := zip_some (x := x) (by simpa using hl) ((List.mem_cons.mp h).resolve_left e)
      obtain ⟨v, hv⟩ := this
      have e' : (x == n) = false := by simpa using e
      rw [e']; exact ⟨v, hv⟩
theorem zip_fill : ∀ {ns : List Str} {us : List Value} {m : List (Str × Value)}, us.length = ns.length → ns.Nodup → (∀ x ∈ ns, m.lookup x = none) → ns.filterMap (fun n => ((m ++ ns.zip us).lookup n).map (n, ·)) = ns.zip us
  | [], us, m, hl, _, _ => by cases us <;> rfl
  | n :: ns, [], _, hl, _, _ => by simp at hl
  | n :: ns, u :: us, m, hl, nd, hm => by
    obtain ⟨n1, n2⟩ := List.nodup_cons.mp nd
    have look : (m ++ (n, u) :: ns.zip us).lookup n = some u := by
      rw [List.lookup_append, hm n List.mem_cons_self]
      simp
    rw [List.zip_cons_cons, List.filterMap_cons, look]
    have ih := zip_fill (ns := ns) (us := us) (m := m ++ [(n, u)]) (by simpa using hl) n2 fun x hx => by
      rw [List.lookup_append, hm x (List.mem_cons_of_mem _ hx)]
      have e : (x == n) = false := by
        have : x ≠ n := fun e => n1 (e ▸ hx)
        simpa using this
      simp [List.lookup_cons, e]
    rw [List.append_assoc] at ih
    show (n, u) :: _ = _
    exact congrArg _ ih
/-- plain parameters, all given -/
theorem bind_plain {fd : FuncData} {as : List Arg} (hp : fd.params = ⟨[], as, none, [], [], none, []⟩) (hd : fd.defaults = .none) (nd : (as.map (·.arg)).Nodup) {us : List Value} (hl : us.length = (as.map (·.arg)).length) :
    bindArgs fd ⟨us, []⟩ = pure ((as.map (·.arg)).zip us) := by
  unfold bindArgs
  rw [hp, hd]
  dsimp only [List.map_nil, List.nil_append, List.append_nil]
  generalize hns : as.map (·.arg) = ns at nd hl ⊢
  rw [List.forIn_nil]
  show (do let defaults ← seqItems? .none; _) = _
  have e : seqItems? .none = pure none := rfl
  rw [e]
  simp only [pure_bind]
  have e0 : (List.map (fun (x : Arg) => x.arg) [] ++ ns) = ns := rfl
  rw [e0]
  have e1 : ((none : Option (Array Value)).getD #[]).toList = [] := rfl
  rw [e1]
  rw [if_neg (by simp [hl])]
  have mis : (List.filter (fun n => ((ns.zip us).lookup n).isNone) (ns.take (ns.length - (List.drop (([] : List Value).length - ns.length) ([] : List Value)).length))) = [] := by
    rw [List.filter_eq_nil_iff]
    intro x hx
    obtain ⟨u, hu⟩ := zip_some hl (List.mem_of_mem_take hx)
    rw [hu]
    simp
  rw [mis]
  rw [if_neg (by simp)]
  have e2 : (List.drop (([] : List Value).length - ns.length) ([] : List Value)) = [] := by simp
  rw [e2, List.zip_nil_right, List.forIn_nil]
  have e3 := zip_fill (ns := ns) (us := us) (m := []) hl nd fun _ _ => rfl
  rw [List.nil_append] at e3
  show (pure (List.filterMap (fun n => ((ns.zip us).lookup n).map (n, ·)) (ns ++ [])) : Sem (List (Str × Value))) = _
  rw [List.append_nil]
  exact congrArg pure e3

/-- the parameters, plain -/
def parB (p : Arguments) : Bool := p.posonlyargs.isEmpty && p.vararg.isNone && p.kwonlyargs.isEmpty && p.kw_defaults.isEmpty && p.kwarg.isNone && p.defaults.isEmpty
theorem parB_of {p : Arguments} (h : parB p = true) : p = ⟨[], p.args, none, [], [], none, []⟩ := by
  obtain ⟨a, b, c, d, e, f, g⟩ := p
  unfold parB at h
  simp only [Bool.and_eq_true, List.isEmpty_iff, Option.isNone_iff_eq_none] at h
  obtain ⟨⟨⟨⟨⟨rfl, rfl⟩, rfl⟩, rfl⟩, rfl⟩, rfl⟩ := h
  rfl
/-- a def of the written part is the term -/
def fdB (K : PySem.W.Frag) (tb : Tab) (fn : Fn) (fd : FuncData) : Bool :=
  parB fd.params && (match fd.body with
    | .stmts b => okSs tb fn.names fn.body fd.scope b
    | _ => false) && C8.scC fn.names (fd.params.args.map (·.arg)) fd.scope && (fd.globals == mainGlobals) && fd.closure.isEmpty && (fd.builtins == builtinsNs) && (fd.defaults == .none) && PySem.W.codeIn K fd.code fd.qualname && decide (fn.ins.length = fd.params.args.length)
def fnB (K : PySem.W.Frag) (tb : Tab) (f : Nat) (x : Str) : Bool := match tb.prog f with
  | some fn => match PySem.W.nsIn K mainGlobals x with
    | some (some (.ref fa)) => PySem.W.keepIn K (.ref fa) && (match K.lookup fa with
      | some ⟨_, _, .func fd, _⟩ => fdB K tb fn fd
      | _ => false)
    | _ => false
  | none => false
theorem fdB_of {K : PySem.W.Frag} {tb : Tab} {fn : Fn} {fd : FuncData} (h : fdB K tb fn fd = true) : ∃ b, okSs tb fn.names fn.body fd.scope b = true ∧ C8.scC fn.names (fd.params.args.map (·.arg)) fd.scope = true ∧ PySem.W.codeIn K fd.code fd.qualname = true ∧ fn.ins.length = fd.params.args.length ∧ fd.defaults = .none ∧
    fd.params = ⟨[], fd.params.args, none, [], [], none, []⟩ ∧ fd = PySem.W.fnOf fd.name fd.qualname fd.params b fd.scope fd.defaults fd.kwdefaults fd.doc fd.pyModule fd.annotations fd.code fd.closureTuple := by
  obtain ⟨name, qual, params, body, scope, globals, closure, dV, kV, doc, pm, an, code, ct, bl⟩ := fd
  unfold fdB at h
  simp only [Bool.and_eq_true, List.isEmpty_iff, decide_eq_true_eq, beq_iff_eq] at h
  obtain ⟨⟨⟨⟨⟨⟨⟨⟨h1, h2⟩, h3⟩, h4⟩, h5⟩, h6⟩, h7⟩, h8⟩, h9⟩ := h
  subst h4 h5 h6
  cases body with
  | stmts b => exact ⟨b, h2, h3, h8, h9, h7, parB_of h1, rfl⟩
  | _ => cases h2
/-- what the written part says of the classes of exceptions -/
structure ExcB (K : PySem.W.Frag) (tb : Tab) (cl : Nat → Value) : Prop where
  ex : ∀ e x, tb.ename e = some x → ∃ (C : Addr) (bmB : List Value) (B newId initId : String), PySem.W.nsIn K mainGlobals x = some (some (.ref C)) ∧ PySem.W.keepIn K (.ref C) = true ∧ ExcBaseFacts B newId initId bmB ∧ PySem.W.excIn K C bmB newId = true ∧ PySem.W.subIn K (.ref C) (.type "BaseException") = some true ∧ PySem.W.typeIn K (.ref C) = some (.type "type") ∧ cl e = .ref C
  met : ∀ e x e' y, tb.ename e = some x → tb.ename e' = some y → PySem.W.exmOne K (cl e') (cl e) = some (e' == e)
section
variable {P : Program} {w : World} {K : PySem.W.Frag} {mg : Str → Option Value} {base : Heap} {tb : Tab} {cl : Nat → Value}
theorem ArgsR.len {C : Addr → Prop} {H : Hp} {vs : List V} {xs : List Rf.X} (ha : ArgsR K C H vs xs) : vs.length = xs.length := by
  induction ha with
  | nil => rfl
  | cons _ _ ih => simp [ih]
theorem ArgsR.get {C : Addr → Prop} {H : Hp} {vs : List V} {xs : List Rf.X} (ha : ArgsR K C H vs xs) : ∀ {i : Nat} {x : Rf.X}, xs[i]? = some x → ∃ v, vs[i]? = some v ∧ ArgR K C H v x := by
  induction ha with
  | nil => intro i x e; simp at e
  | cons r _ ih =>
    intro i x e
    cases i with
    | zero =>
      obtain rfl := Option.some.inj (show some _ = some x from e)
      exact ⟨_, rfl, r⟩
    | succ i => exact ih (by simpa using e)
theorem argW_C {C : Addr → Prop} {H : Hp} {vs : List V} {xs : List Rf.X} (ha : ArgsR K C H vs xs) {a : Addr} (h : argW vs xs a) : C a := by
  obtain ⟨i, b, k, e1, e2⟩ := h
  obtain ⟨v, e3, r⟩ := ha.get e1
  rw [e2] at e3
  obtain rfl := Option.some.inj e3
  obtain ⟨_, a', ea, ca, _⟩ := r
  cases ea
  exact ca
def fnCfg (K : PySem.W.Frag) (C : Addr → Prop) (vs : List V) (cl : Nat → Value) : Cfg := ⟨K, C, fun i v => vs[i]? = some v, cl, .non⟩
theorem startSl_get {fn : Fn} {xs : List Rf.X} {i : Nat} {x : Rf.X} (h : (startSl fn xs)[i]? = some (some x)) : xs[i]? = some x := by
  unfold startSl at h
  by_cases hi : i < xs.length
  · rw [List.getElem?_append_left (by simpa using hi), List.getElem?_map] at h
    cases e : xs[i]? with
    | none => rw [e] at h; cases h
    | some a => rw [e] at h; cases h; rfl
  · rw [List.getElem?_append_right (by simpa using hi), List.getElem?_replicate] at h
    split at h <;> cases h
theorem start_get {N : List Str} {vs : List V} {i : Nat} {v : V} (h : vs[i]? = some v) : (L2.start N vs)[i]? = some (some v) := by
  unfold L2.start
  have hi : i < vs.length := (List.getElem?_eq_some_iff.mp h).1
  rw [List.getElem?_append_left (by simpa using hi), List.getElem?_map, h]
  rfl
theorem start_sl {C : Addr → Prop} {H : Hp} {vs : List V} {xs : List Rf.X} {fn : Fn} (hC : ∀ a, C a → H a ≠ none) (ha : ArgsR K C H vs xs) (hap : argsApart vs xs) (hlen : xs.length ≤ fn.names.length) :
    SR (fnCfg K C vs cl) (argW vs xs) (startSl fn xs) (L2.start fn.names vs) H := by
  have lens := ha.len
  have hu : ∀ a, un (argW vs xs) C a → C a := fun a z => z.elim (argW_C ha) id
  have gv : ∀ {i : Nat} {x : Rf.X} {v : V}, xs[i]? = some x → (L2.start fn.names vs)[i]? = some (some v) → vs[i]? = some v := fun {i x v} e1 e2 => by
    obtain ⟨u, e3, _⟩ := ha.get e1
    rw [start_get e3] at e2
    rw [e3, Option.some.inj e2]
  refine ⟨fun a z => hC a (hu a z), ?_, fun i x e => ?_, fun i j b b' k k' v e1 e2 e3 e4 => ?_, fun i k v e1 e2 => ?_⟩
  · unfold startSl L2.start
    rw [List.length_append, List.length_append, List.length_map, List.length_map, List.length_replicate, List.length_replicate, lens]
  · have e := startSl_get e
    obtain ⟨v, e3, r⟩ := ha.get e
    refine ⟨v, start_get e3, ?_⟩
    cases x with
    | d x => exact Rp.mono (fun _ _ q n => ⟨q, fun z => n (hu _ z)⟩) (show Rp K H C v x from r)
    | cell own k =>
      obtain ⟨rfl, a, rfl, ca, ct⟩ := r
      exact ⟨a, rfl, ⟨i, false, k, e, e3⟩, ⟨fun z => absurd z (by decide), fun z => absurd ca z⟩, ct.grow (fun _ _ q n => ⟨q, fun z => n (hu _ z)⟩) fun _ z => z⟩
    | pin => exact r.elim
  · have e1 := startSl_get e1
    have e2 := startSl_get e2
    exact hap i j b b' k k' v e1 e2 (gv e1 e3) (gv e2 e4)
  · have e1 := startSl_get e1
    exact gv e1 e2
/-- what stands at the parameters at the end -/
theorem outs_end {C : Addr → Prop} {H' : Hp} {W' : Addr → Prop} {σ' : L2.St} {sl : Sl} {vs0 : List V} (sr : SR (fnCfg K C vs0 cl) W' sl σ' H') : ∀ {ins : List Bool} {vs : List V} {xs : List Rf.X} {outs : List Cell} {i : Nat}, (∀ (j : Nat) (v : V), vs[j]? = some v → vs0[i + j]? = some v) → vs.length = xs.length → argsFit ins xs = true → outsOf sl i ins = some outs → OutsR K C H' vs xs outs
  | [], vs, [], outs, i, hv, hl, hf, ho => by
    obtain rfl := Option.some.inj (show some [] = some outs from ho)
    cases vs with
    | nil => exact .nil
    | cons _ _ => simp at hl
  | [], vs, _ :: _, outs, i, hv, hl, hf, ho => by simp [argsFit] at hf
  | b :: ins, vs, [], outs, i, hv, hl, hf, ho => by cases b <;> simp [argsFit] at hf
  | b :: ins, [], x :: xs, outs, i, hv, hl, hf, ho => by simp at hl
  | b :: ins, v :: vs, x :: xs, outs, i, hv, hl, hf, ho => by
    have hv' : ∀ (j : Nat) (u : V), vs[j]? = some u → vs0[i + 1 + j]? = some u := fun j u e => by
      have := hv (j + 1) u (by simpa using e)
      rw [show i + 1 + j = i + (j + 1) by omega]
      exact this
    have hl' : vs.length = xs.length := by simpa using hl
    cases x with
    | d y =>
      cases b with
      | true => simp [argsFit] at hf
      | false => exact .data (outs_end sr hv' hl' (by simpa [argsFit] using hf) ho)
    | cell own k =>
      cases own with
      | true => cases b <;> simp [argsFit] at hf
      | false =>
      cases b with
      | false => simp [argsFit] at hf
      | true =>
        unfold outsOf at ho
        split at ho
        · rename_i k' e
          obtain ⟨outs', h1, rfl⟩ := Option.map_eq_some_iff.mp ho
          obtain ⟨u, e1, a, rfl, wa, ow, ca⟩ := sr.slot i _ e
          have og : vs0[i]? = some (.ref a) := sr.org i k' (.ref a) e e1
          have hv0 := hv 0 v rfl
          rw [Nat.add_zero, og] at hv0
          obtain rfl := Option.some.inj hv0
          exact .cell (ca.grow (fun _ _ q n => ⟨q, fun z => n (.inr z)⟩) fun _ z => z) (outs_end sr hv' hl' (by simpa [argsFit] using hf) h1)
        · cases ho
    | pin => cases b <;> simp [argsFit] at hf
theorem fit_len : ∀ {ins : List Bool} {xs : List Rf.X}, argsFit ins xs = true → ins.length = xs.length
  | [], [], _ => rfl
  | [], _ :: _, h => by simp [argsFit] at h
  | b :: _, [], h => by cases b <;> simp [argsFit] at h
  | b :: ins, x :: xs, h => by
    have : argsFit ins xs = true := by
      cases b <;> cases x <;> first
        | (rename_i own k; cases own <;> simp [argsFit] at h <;> exact h)
        | (simp [argsFit] at h <;> exact h)
        | (simp [argsFit] at h)
    simp [fit_len this]
theorem fit_data : ∀ {ins : List Bool} {xs : List Rf.X}, argsFit ins xs = true → ins.all (!·) = true → ∀ (i : Nat) (b : Bool) (k : Cell), xs[i]? ≠ some (.cell b k)
  | [], [], _, _ => fun i b k e => by simp at e
  | [], _ :: _, h, _ => by simp [argsFit] at h
  | b :: _, [], h, _ => by cases b <;> simp [argsFit] at h
  | true :: ins, _ :: xs, h, ha => by simp at ha
  | false :: ins, .cell _ _ :: xs, h, ha => by simp [argsFit] at h
  | false :: ins, .pin :: xs, h, ha => by simp [argsFit] at h
  | false :: ins, .d y :: xs, h, ha => fun i b k e => by
    cases i with
    | zero => simp at e
    | succ i => exact fit_data (show argsFit ins xs = true from h) (by simpa using ha) i b k (by simpa using e)
/-- a def keeps its promise, its callees theirs -/
theorem fn_step {n f : Nat} {fn : Fn} {fa : Addr} {fd : FuncData} {oc : Value} {od : Option Addr} {osl : Array (Option Value)} (hp : tb.prog f = some fn) (lk : K.lookup fa = some ⟨oc, od, .func fd, osl⟩) (hfd : fdB K tb fn fd = true)
    (ih : ∀ g x, tb.fname g = some x → ∃ (ga : Addr) (gd : FuncData) (ps : List Str), mg x = some (.ref ga) ∧ PySem.W.keepIn K (.ref ga) = true ∧ FnOk P w K mg base (L2.CX P w) n ga gd ps (spF K tb cl n g) ∧ Binds K gd ps [])
    (hb : ∀ x ∈ bltNames, mg x = none) (hex : ExcB K tb cl) (hmg : ∀ x v, PySem.W.nsIn K mainGlobals x = some (some v) → mg x = some v)
    (hgl : ∀ g x, tb.gname g = some x → ∃ u v d, mg x = some u ∧ RelV v u ∧ globD g = some d ∧ ∀ (H : Hp) (C : Addr → Prop), Rp K H C v d)
    (hsg : ∀ x, tb.sname = some x → ∃ d es n, mg x = some (.ref d) ∧ KDict K w d es n ∧ ∀ z, ∃ r, PySem.W.nsIn K d z = some r ∧ RelS r (signsTab.lookup z)) :
    FnOk P w K mg base (L2.CX P w) (n + 1) fa fd (fd.params.args.map (·.arg)) (spF K tb cl (n + 1) f) := by
  obtain ⟨b, h1, h2, h3, h4, h5, h6, h7⟩ := fdB_of hfd
  have len : ∀ vs H Q E, spF K tb cl (n + 1) f vs H Q E → vs.length = (fd.params.args.map (·.arg)).length := fun vs H Q E ⟨C, xs, _, ha, _, hr⟩ => by
    rw [ha.len, List.length_map, ← h4]
    rw [run_succ hp] at hr
    unfold runFn at hr
    split at hr
    · rename_i e
      split at e
      · rename_i hf; exact (fit_len hf).symm
      · cases e
    · rename_i e
      split at e
      · rename_i hf; exact (fit_len hf).symm
      · cases e
    · exact hr.elim
  rw [h7] at lk ⊢
  refine fn_of lk h3 (C8.fnScope_by h2) len fun A outer s H vs Q E hr hsp => ?_
  have ex0 : ∀ (X : Cx), X.K = K → X.mg = mg → ∀ e x, tb.ename e = some x → ∀ (c : Cfg), c.cl = cl → ExcRec tb c X e x := fun X hK hm e x he c hc => by
    obtain ⟨C, bmB, B, newId, initId, g1, g2, g3, g4, g5, g6, g7⟩ := hex.ex e x he
    refine ⟨⟨C, bmB, B, newId, initId, by rw [hm]; exact hmg _ _ g1, by rw [hK]; exact g2, g3, by rw [hK]; exact g4, raises_own (by rw [hK]; exact g5) (by rw [hK]; exact g6), by rw [hc]; exact g7⟩, fun e' y h => ?_⟩
    rw [hK, hc]
    exact hex.met e x e' y he h
  obtain ⟨C, xs, hC, ha, hap, hrun⟩ := hsp
  rw [run_succ hp] at hrun
  unfold runFn at hrun
  by_cases hf : argsFit fn.ins xs = true
  · rw [if_pos hf] at hrun
    have hlen : xs.length ≤ fn.names.length := by
      have e1 := fit_len hf
      have e2 : (fd.params.args.map (·.arg)).length ≤ fn.names.length := by
        have := congrArg List.length (C8.fnScope_by h2).pre
        rw [List.length_take] at this
        omega
      rw [List.length_map] at e2
      omega
    generalize hX : cxOf (L2.CX P w) P w K mg base fn.names fd.qualname fd.scope fa fd.code A outer s H E = X
    have G : GoodS tb n (fnCfg K C vs cl) fn.names fd.scope X (fun cls d _ H => E cls d H) := by
      subst hX
      refine ⟨⟨rfl, rfl, (C8.fnScope_by h2).nd, rfl, rfl, hr, takes_of rfl rfl rfl rfl, fun g x hg => ?_, hb, fun g x hg => ⟨hgl g x hg⟩, fun x hx => ⟨hsg x hx⟩⟩, passes_of rfl, rfl, rfl, fun _ => rfl⟩
      obtain ⟨ga, gd, ps, i1, i2, i3, i4⟩ := ih g x hg
      exact ⟨⟨ga, gd, ps, i1, i2, i3, i4⟩⟩
    have hXK : X.K = K := by subst hX; rfl
    have hXm : X.mg = mg := by subst hX; rfl
    refine ⟨_, sSs fn.body G (C8.fnScope_by h2).kind (fun e x he => ex0 X hXK hXm e x he _ rfl) h1, ?_⟩
    refine ⟨argW vs xs, startSl fn xs, start_sl hC ha hap hlen, ?_⟩
    have hv0 : ∀ (j : Nat) (v : V), vs[j]? = some v → vs[0 + j]? = some v := fun j v e => by rw [Nat.zero_add]; exact e
    have fin : ∀ {d : D} {sl : Sl} {W' : Addr → Prop} {σ' : L2.St} {H' : Hp} {v : V} {Q' : V → Hp → Prop}, (∀ outs, outsOf sl 0 fn.ins = some outs → ∀ v H', (∀ a o, H a = some o → ¬ argW vs xs a → H' a = some o) → (∀ a, C a → H' a ≠ none) → Rp K H' C v d → OutsR K C H' vs xs outs → Q' v H') → (∃ outs, outsOf sl 0 fn.ins = some outs) →
        Stp (argW vs xs) H W' H' → SR (fnCfg K C vs cl) W' sl σ' H' → Rp K H' (un W' C) v d → Q' v H' := fun {d sl W' σ' H' v Q'} hq ⟨outs, ho⟩ st sr rv =>
      hq outs ho v H' (fun a o e n => st.keep a o e n) (fun a z => sr.trk a (.inr z)) (rv.mono fun _ _ q n => ⟨q, fun z => n (.inr z)⟩) (outs_end sr hv0 ha.len hf ho)
    cases e : evalSs (run tb.prog n) fn.body (startSl fn xs) with
    | stuck => rw [e] at hrun; exact hrun
    | brk sl => rw [e] at hrun; exact hrun.elim
    | nx sl =>
      rw [e] at hrun
      intro W' σ' H' st sr
      unfold endFn at hrun
      dsimp only at hrun
      cases ho : outsOf sl 0 fn.ins with
      | none => rw [ho] at hrun; exact hrun.elim
      | some outs =>
        rw [ho] at hrun
        exact fin (d := .none) (v := .non) (Q' := Q) (fun outs' e' v H' => by rw [ho] at e'; cases e'; exact hrun v H') ⟨outs, ho⟩ st sr .non
    | ret d sl =>
      rw [e] at hrun
      intro W' σ' H' v st sr rv
      unfold endFn at hrun
      dsimp only at hrun
      cases ho : outsOf sl 0 fn.ins with
      | none => rw [ho] at hrun; exact hrun.elim
      | some outs =>
        rw [ho] at hrun
        exact fin (Q' := Q) (fun outs' e' v H' => by rw [ho] at e'; cases e'; exact hrun v H') ⟨outs, ho⟩ st sr rv
    | exc ec sl =>
      rw [e] at hrun
      intro W' σ' H' st sr
      unfold endFn at hrun
      dsimp only at hrun
      by_cases hal : fn.ins.all (!·) = true
      · rw [if_pos hal] at hrun
        exact hrun H' fun a o ea => st.keep a o ea fun ⟨i, b, k, e1, _⟩ => fit_data hf hal i b k e1
      · rw [if_neg hal] at hrun
        exact hrun.elim
  · rw [if_neg hf] at hrun
    exact hrun.elim
end
end Rf
end
section
set_option linter.all false
set_option maxRecDepth 100000
set_option maxHeartbeats 1000000
namespace Rf
open PySem PySem.Spec PyProof.Rows L2
structure Prog where
  fns : List (Nat × Str × Fn)
  exs : List (Nat × Str)
  gls : List (Nat × Str) := []
  sg : Option Str := none
def Prog.tab (p : Prog) : Tab := ⟨fun f => (p.fns.lookup f).map (·.2), fun f => (p.fns.lookup f).map (·.1), fun e => p.exs.lookup e, fun g => p.gls.lookup g, p.sg⟩
/-- a value of the written part is this text -/
def strIs (u : Value) (y : Str) : Bool := match u with
  | .str x _ => x == y && decide (x.length ≤ sizeLine)
  | _ => false
def strsIs : List Value → List Rf.D → Bool
  | [], [] => true
  | u :: us, .str y :: ds => strIs u y && strsIs us ds
  | _, _ => false
/-- a tuple of texts of the written part is the constant -/
def globB (K : PySem.W.Frag) (g : Nat) (x : Str) : Bool := match PySem.W.nsIn K mainGlobals x, globD g with
  | some (some (.ref a)), some (.tuple ds) => (match K.lookup a with
    | some ⟨.type "tuple", _, .seq its _, _⟩ => decide (its.size ≤ sizeLine) && strsIs its.toList ds
    | _ => false)
  | _, _ => false
/-- the table of texts, by its values -/
def signB (K : PySem.W.Frag) (x : Str) : Bool := match PySem.W.nsIn K mainGlobals x with
  | some (some (.ref d)) => signsTab.all fun p => match PySem.W.nsIn K d p.1 with
    | some (some u) => strIs u p.2
    | _ => false
  | _ => false
def sgB (K : PySem.W.Frag) : Option Str → Bool
  | none => true
  | some x => signB K x
theorem strIs_of {u : Value} {y : Str} (h : strIs u y = true) : ∃ t, u = .str y t ∧ y.length ≤ sizeLine := by
  unfold strIs at h
  split at h
  · rename_i x t
    simp only [Bool.and_eq_true, beq_iff_eq, decide_eq_true_eq] at h
    obtain ⟨rfl, h⟩ := h
    exact ⟨t, rfl, h⟩
  · cases h
theorem strsIs_of {K : PySem.W.Frag} {H : Hp} {C : Addr → Prop} : ∀ {us : List Value} {ds : List Rf.D}, strsIs us ds = true → ∃ xs : List V, Vals xs us ∧ RpAll K H C xs ds ∧ xs.map (fun _ => ()) = xs.map (fun _ => ()) ∧ ∀ (H' : Hp) (C' : Addr → Prop), RpAll K H' C' xs ds
  | [], [], _ => ⟨[], .nil, .nil, rfl, fun _ _ => .nil⟩
  | u :: us, .str y :: ds, h => by
    obtain ⟨h1, h2⟩ := Bool.and_eq_true_iff.mp (show (strIs u y && strsIs us ds) = true from h)
    obtain ⟨t, rfl, hl⟩ := strIs_of h1
    obtain ⟨xs, g1, g2, _, g3⟩ := strsIs_of (K := K) (H := H) (C := C) h2
    exact ⟨.str y :: xs, .cons ⟨t, rfl⟩ g1, .cons (.str _ hl) g2, rfl, fun H' C' => .cons (.str _ hl) (g3 H' C')⟩
  | [], _ :: _, h => by simp [strsIs] at h
  | _ :: _, [], h => by simp [strsIs] at h
  | _ :: _, .none :: _, h => by simp [strsIs] at h
  | _ :: _, .bool _ :: _, h => by simp [strsIs] at h
  | _ :: _, .int _ :: _, h => by simp [strsIs] at h
  | _ :: _, .list _ :: _, h => by simp [strsIs] at h
  | _ :: _, .tuple _ :: _, h => by simp [strsIs] at h
  | _ :: _, .dict _ :: _, h => by simp [strsIs] at h
theorem globB_of {K : PySem.W.Frag} {g : Nat} {x : Str} (h : globB K g x = true) : ∃ a d, PySem.W.nsIn K mainGlobals x = some (some (.ref a)) ∧ globD g = some d ∧ ∀ (H : Hp) (C : Addr → Prop), Rp K H C (.ref a) d := by
  unfold globB at h
  split at h
  · rename_i a ds e1 e2
    split at h
    · rename_i dd its k sl e3
      obtain ⟨h1, h2⟩ := Bool.and_eq_true_iff.mp h
      obtain ⟨xs, g1, _, _, g3⟩ := strsIs_of (K := K) (H := fun _ => none) (C := fun _ => False) h2
      exact ⟨a, _, e1, e2, fun H C => .tup (.inr ⟨_, its, k, e3, rfl, rfl, of_decide_eq_true h1, g1⟩) (g3 H C)⟩
    · cases h
  · cases h
/-- a dict with written text keys tells of each text -/
theorem keys_tell {K : PySem.W.Frag} {d : Addr} {es : Array DictEntry} {n : Nat} {P : Params} {ks : List Str} (hl : K.lookup d = some ⟨.type "dict", none, .dict es n, #[]⟩) (hk : es.toList.map He.keyOf = He.keysIn P ks) (z : Str) (hz : z ∉ ks) : PySem.W.nsIn K d z = some none := by
  have all : ∀ {l : List DictEntry} {ks : List Str}, l.map He.keyOf = He.keysIn P ks → z ∉ ks → l.find? (·.key.isStr z) = none ∧ l.any (·.refKey) = false := by
    intro l
    induction l with
    | nil => intro _ _ _; exact ⟨rfl, rfl⟩
    | cons e r ih =>
      intro ks h hn
      cases ks with
      | nil => cases h
      | cons k ks =>
        have h1 : He.keyOf e :: r.map He.keyOf = some (k, PyData.keyHash P k) :: He.keysIn P ks := h
        injection h1 with h2 h3
        obtain ⟨i1, i2⟩ := ih h3 fun q => hn (List.mem_cons_of_mem _ q)
        unfold He.keyOf at h2
        split at h2
        · rename_i y t q
          have h4 := Option.some.inj h2
          obtain ⟨rfl, _⟩ := Prod.mk.inj h4
          have ne : y ≠ z := fun e => hn (by rw [e]; exact List.mem_cons_self)
          have n1 : e.key.isStr z = false := by rw [q]; simpa [Value.isStr] using ne
          have n2 : e.refKey = false := by unfold DictEntry.refKey; rw [q]
          exact ⟨by rw [List.find?_cons, n1]; exact i1, by rw [List.any_cons, n2, i2]; rfl⟩
        · cases h2
  obtain ⟨h1, h2⟩ := all hk hz
  unfold PySem.W.nsIn
  rw [hl]
  dsimp only
  rw [h1, h2]
  rfl
/-- a class's place in the written part -/
def exCl (K : PySem.W.Frag) (p : Prog) (e : Nat) : Value := match p.exs.lookup e with
  | some x => match PySem.W.nsIn K mainGlobals x with
    | some (some v) => v
    | _ => .none
  | none => .none
def noneB (o : Option (Option Value)) : Bool := match o with
  | some none => true
  | _ => false
def veBases : List Value := [.type "ValueError", .type "Exception", .type "BaseException", .type "object"]
def excOk (K : PySem.W.Frag) (p : Prog) (x : Str) : Bool := match PySem.W.nsIn K mainGlobals x with
  | some (some (.ref C)) => PySem.W.keepIn K (.ref C) && PySem.W.excIn K C veBases "ValueError.__new__" && (PySem.W.subIn K (.ref C) (.type "BaseException") == some true) && (PySem.W.typeIn K (.ref C) == some (.type "type"))
  | _ => false
/-- the look at the written part -/
def okAll (K : PySem.W.Frag) (p : Prog) : Bool :=
  p.fns.all (fun q => fnB K p.tab q.1 q.2.1) && bltNames.all (fun x => noneB (PySem.W.nsIn K mainGlobals x)) && p.exs.all (fun q => excOk K p q.2) &&
    p.gls.all (fun q => globB K q.1 q.2) && sgB K p.sg && p.exs.all fun q => p.exs.all fun r => PySem.W.exmOne K (exCl K p r.1) (exCl K p q.1) == some (r.1 == q.1)
theorem lookup_mem {α : Type} : ∀ {l : List (Nat × α)} {f : Nat} {a : α}, l.lookup f = some a → (f, a) ∈ l
  | [], _, _, h => by simp at h
  | (k, b) :: l, f, a, h => by
    rw [List.lookup_cons] at h
    split at h
    · rename_i e
      obtain rfl := Option.some.inj h
      rw [beq_iff_eq.mp e]
      exact List.mem_cons_self
    · exact List.mem_cons_of_mem _ (lookup_mem h)
section
variable {P : Program} {w : World} {K : PySem.W.Frag} {mg : Str → Option Value} {base : Heap} {p : Prog}
theorem excB_of (h : okAll K p = true) : ExcB K p.tab (exCl K p) := by
  unfold okAll at h
  simp only [Bool.and_eq_true] at h
  obtain ⟨⟨⟨⟨⟨_, _⟩, h3⟩, _⟩, _⟩, h4⟩ := h
  refine ⟨fun e x he => ?_, fun e x e' y he he' => ?_⟩
  · have he : p.exs.lookup e = some x := he
    have := List.all_eq_true.mp h3 _ (lookup_mem he)
    unfold excOk at this
    split at this
    · rename_i C hC
      simp only [Bool.and_eq_true, beq_iff_eq] at this
      obtain ⟨⟨⟨g1, g2⟩, g3⟩, g4⟩ := this
      refine ⟨C, veBases, _, _, _, hC, g1, PySem.F.excBase_ValueError, g2, g3, g4, ?_⟩
      unfold exCl
      rw [he]
      dsimp only
      rw [hC]
    · cases this
  · have q := List.all_eq_true.mp (List.all_eq_true.mp h4 _ (lookup_mem (show p.exs.lookup e = some x from he))) _ (lookup_mem (show p.exs.lookup e' = some y from he'))
    exact beq_iff_eq.mp q
theorem fns_all (h : okAll K p = true) (hK : K.In base) (hM : base.Ns mainGlobals mg) (hsg : ∀ x, p.sg = some x → ∃ d, PySem.W.nsIn K mainGlobals x = some (some (.ref d)) ∧ He.dicW K d = some (He.keysIn w.params (signsTab.map (·.1)))) : ∀ (n f : Nat) (x : Str), p.tab.fname f = some x → ∃ (fn : Fn) (ga : Addr) (gd : FuncData), p.tab.prog f = some fn ∧ mg x = some (.ref ga) ∧ PySem.W.keepIn K (.ref ga) = true ∧ (∃ oc od osl, K.lookup ga = some ⟨oc, od, .func gd, osl⟩) ∧ fdB K p.tab fn gd = true ∧
    FnOk P w K mg base (L2.CX P w) n ga gd (gd.params.args.map (·.arg)) (spF K p.tab (exCl K p) n f) ∧ Binds K gd (gd.params.args.map (·.arg)) [] := by
  have hex := excB_of h
  have hmg : ∀ x v, PySem.W.nsIn K mainGlobals x = some (some v) → mg x = some v := fun x v e => PySem.W.mg_of hK hM e
  unfold okAll at h
  simp only [Bool.and_eq_true] at h
  obtain ⟨⟨⟨⟨⟨h1, h2⟩, _⟩, hg1⟩, hg2⟩, _⟩ := h
  have hgl : ∀ g x, p.tab.gname g = some x → ∃ u v d, mg x = some u ∧ RelV v u ∧ globD g = some d ∧ ∀ (H : Hp) (C : Addr → Prop), Rp K H C v d := fun g x hx => by
    obtain ⟨a, d, g1, g2, g3⟩ := globB_of (List.all_eq_true.mp hg1 _ (lookup_mem (show p.gls.lookup g = some x from hx)))
    exact ⟨_, .ref a, d, hmg _ _ g1, rfl, g2, g3⟩
  have hsn : ∀ x, p.tab.sname = some x → ∃ d es n, mg x = some (.ref d) ∧ KDict K w d es n ∧ ∀ z, ∃ r, PySem.W.nsIn K d z = some r ∧ RelS r (signsTab.lookup z) := fun x hx => by
    have hx : p.sg = some x := hx
    obtain ⟨d, g1, g2⟩ := hsg x hx
    obtain ⟨es, k, kd⟩ := He.dicW_ok g2
    refine ⟨d, es, k, hmg _ _ g1, kd, fun z => ?_⟩
    rw [hx] at hg2
    have hg2 : signB K x = true := hg2
    unfold signB at hg2
    rw [g1] at hg2
    dsimp only at hg2
    by_cases hz : z ∈ signsTab.map (·.1)
    · obtain ⟨q, hq, rfl⟩ := List.mem_map.mp hz
      have := List.all_eq_true.mp hg2 q hq
      split at this
      · rename_i u e
        obtain ⟨t, rfl, hl⟩ := strIs_of this
        refine ⟨_, e, ?_⟩
        have lk : signsTab.lookup q.1 = some q.2 := by
          have hall : ∀ q ∈ signsTab, signsTab.lookup q.1 = some q.2 := by decide +kernel
          exact hall q hq
        rw [lk]
        exact .some hl
      · cases this
    · refine ⟨none, keys_tell (P := w.params) kd.at_ ?_ z hz, ?_⟩
      · unfold He.dicW at g2
        rw [kd.at_] at g2
        dsimp only at g2
        split at g2
        · exact Option.some.inj g2
        · cases g2
      · have : signsTab.lookup z = none := by
          rw [List.lookup_eq_none_iff]
          intro q hq
          exact bne_iff_ne.mpr fun e => hz (List.mem_map.mpr ⟨q, hq, e.symm⟩)
        rw [this]
        exact .none
  have hb : ∀ x ∈ bltNames, mg x = none := fun x hx => by
    have := List.all_eq_true.mp h2 x hx
    unfold noneB at this
    split at this
    · rename_i e; exact PySem.W.mg_none_of hK hM e
    · cases this
  -- a def's record
  have rec0 : ∀ f x, p.tab.fname f = some x → ∃ (fn : Fn) (ga : Addr) (gd : FuncData), p.tab.prog f = some fn ∧ mg x = some (.ref ga) ∧ PySem.W.keepIn K (.ref ga) = true ∧ (∃ oc od osl, K.lookup ga = some ⟨oc, od, .func gd, osl⟩) ∧ fdB K p.tab fn gd = true := fun f x hf => by
    obtain ⟨⟨x', fn'⟩, hl, ex⟩ := Option.map_eq_some_iff.mp (show (p.fns.lookup f).map (·.1) = some x from hf)
    have ex : x' = x := ex
    subst ex
    have := List.all_eq_true.mp h1 _ (lookup_mem hl)
    unfold fnB at this
    split at this
    · rename_i fn hfn
      split at this
      · rename_i fa hfa
        simp only [Bool.and_eq_true] at this
        obtain ⟨k1, k2⟩ := this
        split at k2
        · rename_i fd _ hlk
          exact ⟨fn, fa, fd, hfn, hmg _ _ hfa, k1, ⟨_, _, _, hlk⟩, k2⟩
        · cases k2
      · cases this
    · cases this
  have bnd : ∀ {fn : Fn} {gd : FuncData}, fdB K p.tab fn gd = true → Binds K gd (gd.params.args.map (·.arg)) [] := fun {fn gd} hfd => by
    obtain ⟨b, q1, q2, q3, q4, q5, q6, q7⟩ := fdB_of hfd
    refine .all fun us hl => bind_plain q6 q5 ?_ hl
    have S := C8.fnScope_by q2
    rw [← S.pre]
    exact S.nd.sublist (List.take_sublist _ _)
  intro n
  induction n with
  | zero =>
    intro f x hf
    obtain ⟨fn, ga, gd, r1, r2, r3, r4, r5⟩ := rec0 f x hf
    refine ⟨fn, ga, gd, r1, r2, r3, r4, r5, ⟨fun vs H Q E ⟨C, xs, _, _, _, hr⟩ => hr.elim, fun A outer s H args us vs Q E _ _ _ _ ⟨C, xs, _, _, _, hr⟩ => hr.elim⟩, bnd r5⟩
  | succ n ih =>
    intro f x hf
    obtain ⟨fn, ga, gd, r1, r2, r3, ⟨oc, od, osl, r4⟩, r5⟩ := rec0 f x hf
    refine ⟨fn, ga, gd, r1, r2, r3, ⟨oc, od, osl, r4⟩, r5, fn_step r1 r4 r5 (fun g y hg => ?_) hb hex hmg hgl hsn, bnd r5⟩
    obtain ⟨_, ga', gd', _, i2, i3, _, _, i6, i7⟩ := ih g y hg
    exact ⟨ga', gd', _, i2, i3, i6, i7⟩
end
theorem rp_ints_of {K : PySem.W.Frag} {H : Hp} {C : Addr → Prop} : ∀ ns : List Int, RpAll K H C (ns.map V.int) (ns.map PyData.int)
  | [] => .nil
  | n :: ns => .cons (.int n) (rp_ints_of ns)
theorem room200 : Room 200 callerA := ⟨rfl, by decide +kernel, by decide +kernel⟩
/-- a law's end -/
theorem law_end {l : PySem.W.OpenLaw} {n k : Nat} {q : Program} {loose : List Str} {XP : (Str → Option Value) → Heap → Prop} {YP : World → Heap → Prop} {d : DefRec} {K : Params → PySem.W.Frag} (p : Prog) (f0 : Nat) (fn : Fn) (x : Str)
    (hn : l.most = some n) (hn2 : n ≤ sizeLine) (hdf : d.params.defaults = []) (hr : Room k callerA) (hY : ∀ (w : World) (h : Heap), YP w h → (K w.params).In h) (hok : ∀ w : World, okAll (K w.params) p = true) (hsg : ∀ (w : World) (x : Str), p.sg = some x → ∃ d, PySem.W.nsIn (K w.params) mainGlobals x = some (some (.ref d)) ∧ He.dicW (K w.params) d = some (He.keysIn w.params (signsTab.map (·.1))))
    (hname : p.tab.fname f0 = some d.name) (hfn : p.tab.prog f0 = some fn) (hins : fn.ins = [false]) (hx : fn.names.head? = some x)
    (hrun : ∀ ns : List Int, ns.length ≤ n → run p.tab.prog k f0 [.d (.list (ns.map .int))] = .ok (.bool true) []) :
    PySem.W.WalkO q loose XP YP l.row.toRowW d [] (fun f vs => PySem.call f vs) := by
  refine walk_of (K := K) (CX := fun w => L2.CX l.prog w) (sp := fun w => spF (K w.params) p.tab (exCl (K w.params) p) k f0) (x := x) hn hn2 hdf hr hY (fun w mg fa h hK hM hfa => ?_) (fun w H a ns hlen hO hS => ?_) (fun w H s e s' h => ?_)
  · obtain ⟨fn', ga, gd, r1, r2, r3, ⟨oc, od, osl, r4⟩, r5, _, r7⟩ := fns_all (P := l.prog) (w := w) (hok w) hK hM (hsg w) k f0 d.name hname
    rw [hfn] at r1
    obtain rfl := Option.some.inj r1
    rw [hfa] at r2
    cases r2
    have hps : gd.params.args.map (·.arg) = [x] := by
      obtain ⟨b, q1, q2, q3, q4, q5, q6, q7⟩ := fdB_of r5
      have S := C8.fnScope_by q2
      have pre := S.pre
      have hl : gd.params.args.length = 1 := by rw [← q4, hins]; rfl
      rw [← pre, List.length_map, hl]
      cases e : fn.names with
      | nil => rw [e] at hx; cases hx
      | cons y ys =>
        rw [e] at hx
        obtain rfl := Option.some.inj (show some y = some x from hx)
        rfl
    refine ⟨gd, fun s u => ?_, fun base hKb hMb => ?_⟩
    · obtain ⟨b, q1, q2, q3, q4, q5, q6, q7⟩ := fdB_of r5
      have S := C8.fnScope_by q2
      refine .of_eq ?_
      have := bind_plain q6 q5 (by rw [hps]; simp) (us := [u]) (by rw [hps]; rfl)
      rw [hps] at this
      exact this
    · obtain ⟨fn2, ga2, gd2, t1, t2, t3, ⟨oc2, od2, osl2, t4⟩, t5, t6, t7⟩ := fns_all (P := l.prog) (w := w) (hok w) hKb hMb (hsg w) k f0 d.name hname
      have e1 : mg d.name = some (.ref ga2) := t2
      rw [hfa] at e1
      cases e1
      rw [r4] at t4
      cases t4
      rw [hps] at t6
      exact t6
  · refine ⟨fun _ => False, [.d (.list (ns.map .int))], fun _ z => z.elim, .cons (.lst ?_ (rp_ints_of ns)) .nil, fun i j b b' k k' v e1 _ _ _ => ?_, ?_⟩
    · rcases hS with z | z
      · exact .inl ⟨z, fun y => y⟩
      · exact .inr z
    · cases i with
      | zero => cases e1
      | succ i => simp at e1
    · rw [hrun ns hlen]
      intro v H' _ _ rv _
      exact (Rt.rp rv).bl
  · obtain ⟨_, _, _, _, _, _, _, _, _, _, _, _, z⟩ := h
    exact z.elim
end Rf
end
section
set_option maxRecDepth 100000
namespace Rf
def F_is_whole : Fn := { ins := [false], names := ["thing"], body := (.cons (.ret (.and_ (.bi (.isi .int) (.cons (.val (.var 0)) .nil)) (.not_ (.bi (.isi .bool) (.cons (.val (.var 0)) .nil)))))
    .nil) }
def F_is_word : Fn := { ins := [false], names := ["thing", "sign"], body := (.cons (.ret (.and_ (.bi (.isi .str) (.cons (.val (.var 0)) .nil)) (.and_ (.chain .le .le (.const (.int 1)) (.bi .len (.cons (.val (.var 0)) .nil)) (.const (.int 9))) (.bi .all (.cons (.val (.comp (.chain .le .le (.const (.str ⟨#[97]⟩)) (.var 1) (.const (.str ⟨#[122]⟩))) (.nm 1) (.seq (.var 0)) .none [1])) .nil)))))
    .nil) }
def F_are_numerals : Fn := { ins := [false], names := ["thing", "one"], body := (.cons (.ite (.or_ (.not_ (.bi (.isi .tuple) (.cons (.val (.var 0)) .nil))) (.or_ (.not_ (.chain .le .le (.const (.int 1)) (.bi .len (.cons (.val (.var 0)) .nil)) (.const (.int 20)))) (.not_ (.bi .all (.cons (.val (.comp (.call 1 (.cons (.val (.var 1)) .nil)) (.nm 1) (.seq (.var 0)) .none [1])) .nil))))) (.cons (.ret (.const (.bool false)))
    .nil) .nil)
    (.cons (.ret (.op .eq (.val (.bi .lenset (.cons (.val (.var 0)) .nil))) (.val (.bi .len (.cons (.val (.var 0)) .nil)))))
    .nil)) }
def F_is_part : Fn := { ins := [false, false, false], names := ["sort", "thing", "many"], body := (.cons (.ite (.op .eq (.val (.var 0)) (.val (.const (.str ⟨#[116]⟩)))) (.cons (.ret (.and_ (.call 0 (.cons (.val (.var 1)) .nil)) (.chain .le .lt (.const (.int 0)) (.var 1) (.var 2))))
    .nil) .nil)
    (.cons (.ret (.and_ (.call 1 (.cons (.val (.var 1)) .nil)) (.or_ (.op .eq (.val (.var 0)) (.val (.const (.str ⟨#[119]⟩)))) (.op .eq (.val (.bi .len (.cons (.val (.var 1)) .nil))) (.val (.const (.int 1)))))))
    .nil)) }
def F_is_hole : Fn := { ins := [false, false], names := ["thing", "many", "sorts", "sort", "one"], body := (.cons (.ite (.or_ (.not_ (.bi (.isi .tuple) (.cons (.val (.var 0)) .nil))) (.or_ (.op .eq (.val (.var 0)) (.val (.tup .nil))) (.or_ (.not_ (.bi (.isi .str) (.cons (.val (.idx (.val (.var 0)) (.val (.const (.int 0))))) .nil))) (.gin true (.idx (.val (.var 0)) (.val (.const (.int 0)))))))) (.cons (.ret (.const (.bool false)))
    .nil) .nil)
    (.cons (.asg (.nm 2) (.gget (.idx (.val (.var 0)) (.val (.const (.int 0))))))
    (.cons (.ite (.or_ (.op .ne (.val (.bi .len (.cons (.val (.var 0)) .nil))) (.val (.op .add (.val (.bi .len (.cons (.val (.var 2)) .nil))) (.val (.const (.int 1)))))) (.not_ (.bi .all (.cons (.val (.comp (.call 3 (.cons (.val (.var 3)) (.cons (.val (.var 4)) (.cons (.val (.var 1)) .nil)))) (.tp [3, 4]) (.zip (.var 2) (.slice (.val (.var 0)) (.some (.const (.int 1))) .none)) .none [3, 4])) .nil)))) (.cons (.ret (.const (.bool false)))
    .nil) .nil)
    (.cons (.ret (.or_ (.op .ne (.val (.idx (.val (.var 0)) (.val (.const (.int 0))))) (.val (.const (.str ⟨#[109, 111, 114, 101]⟩)))) (.op .ne (.val (.idx (.val (.var 0)) (.val (.const (.int 1))))) (.val (.idx (.val (.var 0)) (.val (.const (.int 2))))))))
    .nil)))) }
def F_is_piece : Fn := { ins := [false, false], names := ["thing", "many"], body := (.cons (.ite (.and_ (.bi (.isi .tuple) (.cons (.val (.var 0)) .nil)) (.and_ (.op .eq (.val (.bi .len (.cons (.val (.var 0)) .nil))) (.val (.const (.int 2)))) (.and_ (.bi (.isi .str) (.cons (.val (.idx (.val (.var 0)) (.val (.const (.int 0))))) .nil)) (.op .eq (.val (.idx (.val (.var 0)) (.val (.const (.int 0))))) (.val (.const (.str ⟨#[115, 97, 121]⟩))))))) (.cons (.ret (.call 1 (.cons (.val (.idx (.val (.var 0)) (.val (.const (.int 1))))) .nil)))
    .nil) .nil)
    (.cons (.ret (.call 4 (.cons (.val (.var 0)) (.cons (.val (.var 1)) .nil))))
    .nil)) }
def F_is_system : Fn := { ins := [false], names := ["thing", "forms", "form", "piece"], body := (.cons (.ite (.or_ (.not_ (.bi (.isi .tuple) (.cons (.val (.var 0)) .nil))) (.or_ (.op .ne (.val (.bi .len (.cons (.val (.var 0)) .nil))) (.val (.const (.int 2)))) (.not_ (.call 2 (.cons (.val (.idx (.val (.var 0)) (.val (.const (.int 0))))) .nil))))) (.cons (.ret (.const (.bool false)))
    .nil) .nil)
    (.cons (.asg (.nm 1) (.idx (.val (.var 0)) (.val (.const (.int 1)))))
    (.cons (.ite (.or_ (.not_ (.bi (.isi .tuple) (.cons (.val (.var 1)) .nil))) (.not_ (.chain .le .le (.const (.int 1)) (.bi .len (.cons (.val (.var 1)) .nil)) (.const (.int 3))))) (.cons (.ret (.const (.bool false)))
    .nil) .nil)
    (.cons (.for_ (.nm 2) (.seq (.var 1)) (.cons (.ite (.or_ (.not_ (.bi (.isi .tuple) (.cons (.val (.var 2)) .nil))) (.not_ (.chain .le .le (.const (.int 1)) (.bi .len (.cons (.val (.var 2)) .nil)) (.const (.int 12))))) (.cons (.ret (.const (.bool false)))
    .nil) .nil)
    (.cons (.ite (.not_ (.bi .all (.cons (.val (.comp (.call 5 (.cons (.val (.var 3)) (.cons (.val (.bi .len (.cons (.val (.var 1)) .nil))) .nil))) (.nm 3) (.seq (.var 2)) .none [3])) .nil))) (.cons (.ret (.const (.bool false)))
    .nil) .nil)
    .nil)))
    (.cons (.ret (.chain .le .le (.const (.int 1)) (.bi .len (.cons (.val (.call 7 (.cons (.val (.var 0)) .nil))) .nil)) (.const (.int 6))))
    .nil))))) }
def F_holes_of : Fn := { ins := [false], names := ["system", "form", "piece"], body := (.cons (.ret (.bi .tuple (.cons (.val (.comp2 (.var 2) (.nm 1) (.seq (.idx (.val (.var 0)) (.val (.const (.int 1))))) (.nm 2) (.seq (.var 1)) (.some (.op .ne (.val (.idx (.val (.var 2)) (.val (.const (.int 0))))) (.val (.const (.str ⟨#[115, 97, 121]⟩))))) [1, 2] [2])) .nil)))
    .nil) }
def F_words_for : Fn := { ins := [false, false], names := ["system", "hole"], body := (.cons (.ret (.ite (.op .eq (.val (.idx (.val (.var 1)) (.val (.const (.int 0))))) (.val (.const (.str ⟨#[109, 111, 114, 101]⟩)))) (.glob 0) (.idx (.val (.var 0)) (.val (.const (.int 0))))))
    .nil) }
def F_sizes_of : Fn := { ins := [false], names := ["system", "hole"], body := (.cons (.ret (.comp (.bi .len (.cons (.val (.call 8 (.cons (.val (.var 0)) (.cons (.val (.var 1)) .nil)))) .nil)) (.nm 1) (.seq (.call 7 (.cons (.val (.var 0)) .nil))) .none [1]))
    .nil) }
def F_is_filling : Fn := { ins := [false, false], names := ["system", "thing", "sizes", "one", "size"], body := (.cons (.asg (.nm 2) (.call 9 (.cons (.val (.var 0)) .nil)))
    (.cons (.ite (.or_ (.not_ (.bi (.isi .tuple) (.cons (.val (.var 1)) .nil))) (.op .ne (.val (.bi .len (.cons (.val (.var 1)) .nil))) (.val (.bi .len (.cons (.val (.var 2)) .nil))))) (.cons (.ret (.const (.bool false)))
    .nil) .nil)
    (.cons (.ret (.bi .all (.cons (.val (.comp (.and_ (.call 0 (.cons (.val (.var 3)) .nil)) (.chain .le .lt (.const (.int 0)) (.var 3) (.var 4))) (.tp [3, 4]) (.zip (.var 1) (.var 2)) .none [3, 4])) .nil)))
    .nil))) }
def F_how_many : Fn := { ins := [false], names := ["system", "many", "size"], body := (.cons (.asg (.nm 1) (.const (.int 1)))
    (.cons (.for_ (.nm 2) (.seq (.call 9 (.cons (.val (.var 0)) .nil))) (.cons (.asg (.nm 1) (.op .mul (.val (.var 1)) (.val (.var 2))))
    .nil))
    (.cons (.ret (.var 1))
    .nil))) }
def F_l_same : Fn := { ins := [false, false], names := ["_law_got", "_law_due", "_law_one", "_law_other"], body := (.cons (.ite (.op .is_ (.val (.var 1)) (.val (.const .none))) (.cons (.ret (.op .is_ (.val (.var 0)) (.val (.const .none))))
    .nil) .nil)
    (.cons (.ite (.bi (.isi .bool) (.cons (.val (.var 1)) .nil)) (.cons (.ret (.and_ (.bi (.isi .bool) (.cons (.val (.var 0)) .nil)) (.op .eq (.val (.var 0)) (.val (.var 1)))))
    .nil) .nil)
    (.cons (.ite (.bi (.isi .tuple) (.cons (.val (.var 1)) .nil)) (.cons (.ite (.or_ (.not_ (.bi (.isi .tuple) (.cons (.val (.var 0)) .nil))) (.op .ne (.val (.bi .len (.cons (.val (.var 0)) .nil))) (.val (.bi .len (.cons (.val (.var 1)) .nil))))) (.cons (.ret (.const (.bool false)))
    .nil) .nil)
    (.cons (.ret (.bi .all (.cons (.val (.comp (.call 12 (.cons (.val (.var 2)) (.cons (.val (.var 3)) .nil))) (.tp [2, 3]) (.zip (.var 0) (.var 1)) .none [2, 3])) .nil)))
    .nil)) .nil)
    (.cons (.ite (.bi (.isi .str) (.cons (.val (.var 1)) .nil)) (.cons (.ret (.and_ (.bi (.isi .str) (.cons (.val (.var 0)) .nil)) (.op .eq (.val (.var 0)) (.val (.var 1)))))
    .nil) .nil)
    (.cons (.ret (.and_ (.bi (.isi .int) (.cons (.val (.var 0)) .nil)) (.and_ (.not_ (.bi (.isi .bool) (.cons (.val (.var 0)) .nil))) (.op .eq (.val (.var 0)) (.val (.var 1))))))
    .nil))))) }
def F_l_draw : Fn := { ins := [false, true, false], names := ["_law_script", "_law_town", "_law_many", "_law_k", "_law_cell", "_law_digits", "_law_number", "_law_more"], body := (.cons (.ite (.not_ (.peek 1)) (.cons (.app 1 (.bi .max (.cons (.val (.op .add (.val (.comp (.bi .abs (.cons (.val (.var 4)) .nil)) (.nm 4) (.seq (.var 0)) .none [4])) (.val (.lst (.cons (.const (.int 0)) .nil))))) .nil)))
    .nil) .nil)
    (.cons (.app 1 (.const (.int 0)))
    (.cons (.asg (.nm 3) (.bi .len (.cons (.ref 1) .nil)))
    (.cons (.asg (.nm 4) (.ite (.var 0) (.idx (.val (.var 0)) (.val (.op .mod (.val (.var 3)) (.val (.bi .len (.cons (.val (.var 0)) .nil)))))) (.const (.int 0))))
    (.cons (.asg (.nm 5) (.op .mod (.val (.idx (.ref 1) (.val (.const (.int 0))))) (.val (.const (.int 65536)))))
    (.cons (.setI 1 (.const (.int 0)) (.op .fdiv (.val (.idx (.ref 1) (.val (.const (.int 0))))) (.val (.const (.int 65536)))))
    (.cons (.asg (.nm 6) (.op .mod (.val (.op .add (.val (.op .add (.val (.var 4)) (.val (.op .mul (.val (.const (.int 40503))) (.val (.var 5)))))) (.val (.op .mul (.val (.const (.int 104729))) (.val (.var 3)))))) (.val (.const (.int 4294967291)))))
    (.cons (.asg (.nm 6) (.op .mod (.val (.op .mul (.val (.op .mod (.val (.op .mul (.val (.var 6)) (.val (.var 6)))) (.val (.const (.int 4294967279))))) (.val (.const (.int 48271))))) (.val (.const (.int 4294967291)))))
    (.cons (.asg (.nm 7) (.op .mod (.val (.op .mul (.val (.op .mod (.val (.op .mul (.val (.var 6)) (.val (.var 6)))) (.val (.const (.int 4294967279))))) (.val (.const (.int 69621))))) (.val (.const (.int 4294967291)))))
    (.cons (.ret (.op .mod (.val (.op .add (.val (.op .mul (.val (.op .fdiv (.val (.var 6)) (.val (.const (.int 64))))) (.val (.const (.int 67108864))))) (.val (.op .fdiv (.val (.var 7)) (.val (.const (.int 64))))))) (.val (.var 2))))
    .nil)))))))))) }
def F_l_pick : Fn := { ins := [false, true, false], names := ["_law_script", "_law_town", "_law_some"], body := (.cons (.ret (.idx (.val (.var 2)) (.val (.call 13 (.cons (.val (.var 0)) (.cons (.ref 1) (.cons (.val (.bi .len (.cons (.val (.var 2)) .nil))) .nil)))))))
    .nil) }
def F_l_mixed : Fn := { ins := [false, true, false], names := ["_law_script", "_law_town", "_law_things", "_law_rest", "_law_found"], body := (.cons (.par [(3, true), (4, true)] (.cons (.bi .list (.cons (.val (.var 2)) .nil)) (.cons (.lst .nil) .nil)))
    (.cons (.while_ (.peek 3) (.cons (.app 4 (.popAt 3 (.call 13 (.cons (.val (.var 0)) (.cons (.ref 1) (.cons (.val (.bi .len (.cons (.ref 3) .nil))) .nil))))))
    .nil))
    (.cons (.ret (.frz 4))
    .nil))) }
def F_l_drawn_word : Fn := { ins := [false, true, false], names := ["_law_script", "_law_town", "_law_most", "_law_found", "_law_j"], body := (.cons (.asg (.nm 3) (.const (.str ⟨#[]⟩)))
    (.cons (.for_ (.nm 4) (.range1 (.op .add (.val (.const (.int 1))) (.val (.call 13 (.cons (.val (.var 0)) (.cons (.ref 1) (.cons (.val (.var 2)) .nil))))))) (.cons (.asg (.nm 3) (.op .add (.val (.var 3)) (.val (.call 14 (.cons (.val (.var 0)) (.cons (.ref 1) (.cons (.val (.lst (.cons (.const (.str ⟨#[97]⟩)) (.cons (.const (.str ⟨#[98]⟩)) (.cons (.const (.str ⟨#[101]⟩)) (.cons (.const (.str ⟨#[110]⟩)) (.cons (.const (.str ⟨#[111]⟩)) (.cons (.const (.str ⟨#[115]⟩)) (.cons (.const (.str ⟨#[121]⟩)) .nil))))))))) .nil)))))))
    .nil))
    (.cons (.ret (.var 3))
    .nil))) }
def F_l_drawn_hole : Fn := { ins := [false, true, false, false], names := ["_law_script", "_law_town", "_law_words_here", "_law_many", "_law_kinds", "_law_kind", "_law_t", "_law_signs"], body := (.cons (.asg (.nm 4) (.lst (.cons (.const (.str ⟨#[115, 105, 103, 110]⟩)) (.cons (.const (.str ⟨#[115, 105, 103, 110]⟩)) (.cons (.const (.str ⟨#[115, 105, 103, 110]⟩)) (.cons (.const (.str ⟨#[102, 105, 114, 115, 116]⟩)) (.cons (.const (.str ⟨#[119, 111, 114, 100]⟩)) (.cons (.const (.str ⟨#[115, 105, 122, 101]⟩)) (.cons (.const (.str ⟨#[117, 110, 108, 105, 107, 101]⟩)) (.cons (.const (.str ⟨#[108, 111, 110, 103, 101, 115, 116]⟩)) (.cons (.const (.str ⟨#[112, 108, 97, 99, 101]⟩)) (.cons (.const (.str ⟨#[109, 111, 114, 101]⟩)) .nil))))))))))))
    (.cons (.asg (.nm 5) (.call 14 (.cons (.val (.var 0)) (.cons (.ref 1) (.cons (.val (.var 4)) .nil)))))
    (.cons (.asg (.nm 6) (.call 13 (.cons (.val (.var 0)) (.cons (.ref 1) (.cons (.val (.var 3)) .nil)))))
    (.cons (.ite (.op .in_ (.val (.var 5)) (.val (.tup (.cons (.const (.str ⟨#[115, 105, 103, 110]⟩)) (.cons (.const (.str ⟨#[102, 105, 114, 115, 116]⟩)) .nil))))) (.cons (.ret (.tup (.cons (.var 5) (.cons (.call 14 (.cons (.val (.var 0)) (.cons (.ref 1) (.cons (.val (.lst (.cons (.const (.str ⟨#[97]⟩)) (.cons (.const (.str ⟨#[98]⟩)) (.cons (.const (.str ⟨#[101]⟩)) (.cons (.const (.str ⟨#[110]⟩)) (.cons (.const (.str ⟨#[111]⟩)) (.cons (.const (.str ⟨#[115]⟩)) (.cons (.const (.str ⟨#[121]⟩)) .nil))))))))) .nil)))) (.cons (.var 6) .nil)))))
    .nil) .nil)
    (.cons (.ite (.op .in_ (.val (.var 5)) (.val (.tup (.cons (.const (.str ⟨#[119, 111, 114, 100]⟩)) (.cons (.const (.str ⟨#[112, 108, 97, 99, 101]⟩)) .nil))))) (.cons (.ret (.tup (.cons (.var 5) (.cons (.call 14 (.cons (.val (.var 0)) (.cons (.ref 1) (.cons (.val (.var 2)) .nil)))) (.cons (.var 6) .nil)))))
    .nil) .nil)
    (.cons (.ite (.op .eq (.val (.var 5)) (.val (.const (.str ⟨#[109, 111, 114, 101]⟩)))) (.cons (.asg (.nm 7) (.call 15 (.cons (.val (.var 0)) (.cons (.ref 1) (.cons (.val (.lst (.cons (.const (.str ⟨#[97]⟩)) (.cons (.const (.str ⟨#[98]⟩)) (.cons (.const (.str ⟨#[101]⟩)) (.cons (.const (.str ⟨#[110]⟩)) (.cons (.const (.str ⟨#[111]⟩)) (.cons (.const (.str ⟨#[115]⟩)) (.cons (.const (.str ⟨#[121]⟩)) .nil))))))))) .nil)))))
    (.cons (.ret (.tup (.cons (.var 5) (.cons (.idx (.val (.var 7)) (.val (.const (.int 0)))) (.cons (.idx (.val (.var 7)) (.val (.const (.int 1)))) (.cons (.var 6) .nil))))))
    .nil)) .nil)
    (.cons (.ret (.tup (.cons (.var 5) (.cons (.var 6) .nil))))
    .nil))))))) }
def F_l_drawn_system : Fn := { ins := [false, true, false, false], names := ["_law_script", "_law_town", "_law_most", "_law_holes_here", "_law_numerals", "_law_k", "_law_many", "_law_forms", "_law_form", "_law_word"], body := (.cons (.asgC 4 (.lst .nil))
    (.cons (.for_ (.nm 5) (.range1 (.op .add (.val (.const (.int 1))) (.val (.call 13 (.cons (.val (.var 0)) (.cons (.ref 1) (.cons (.val (.var 2)) .nil))))))) (.cons (.asg (.nm 9) (.call 16 (.cons (.val (.var 0)) (.cons (.ref 1) (.cons (.val (.const (.int 4))) .nil)))))
    (.cons (.while_ (.op .in_ (.val (.var 9)) (.ref 4)) (.cons (.asg (.nm 9) (.op .add (.val (.var 9)) (.val (.const (.str ⟨#[122]⟩)))))
    .nil))
    (.cons (.app 4 (.var 9))
    .nil))))
    (.cons (.asg (.nm 6) (.op .add (.val (.const (.int 1))) (.val (.call 13 (.cons (.val (.var 0)) (.cons (.ref 1) (.cons (.val (.const (.int 2))) .nil)))))))
    (.cons (.rows 7 5 (.var 6) (.nm 5) (.range1 (.op .add (.val (.const (.int 1))) (.val (.call 13 (.cons (.val (.var 0)) (.cons (.ref 1) (.cons (.val (.var 3)) .nil))))))) (.call 13 (.cons (.val (.var 0)) (.cons (.ref 1) (.cons (.val (.var 6)) .nil)))) (.call 17 (.cons (.val (.var 0)) (.cons (.ref 1) (.cons (.val (.op .add (.ref 4) (.val (.lst (.cons (.const (.str ⟨#[110, 111]⟩)) (.cons (.const (.str ⟨#[97, 115]⟩)) .nil)))))) (.cons (.val (.var 6)) .nil))))) 8 (.cons (.for_ (.nm 5) (.range1 (.op .add (.val (.call 13 (.cons (.val (.var 0)) (.cons (.ref 1) (.cons (.val (.const (.int 3))) .nil))))) (.val (.bi .int (.cons (.val (.op .eq (.ref 8) (.val (.lst .nil)))) .nil))))) (.cons (.ins 8 (.call 13 (.cons (.val (.var 0)) (.cons (.ref 1) (.cons (.val (.op .add (.val (.bi .len (.cons (.ref 8) .nil))) (.val (.const (.int 1))))) .nil)))) (.tup (.cons (.const (.str ⟨#[115, 97, 121]⟩)) (.cons (.call 16 (.cons (.val (.var 0)) (.cons (.ref 1) (.cons (.val (.const (.int 3))) .nil)))) .nil))))
    .nil))
    .nil))
    (.cons (.ret (.tup (.cons (.bi .tuple (.cons (.ref 4) .nil)) (.cons (.bi .tuple (.cons (.val (.comp (.bi .tuple (.cons (.ref 8) .nil)) (.nm 8) (.seq (.var 7)) .none [8])) .nil)) .nil))))
    .nil))))) }
def F_l_bent : Fn := { ins := [false, true, false], names := ["_law_script", "_law_town", "_law_thing", "_law_at", "_law_some"], body := (.cons (.ite (.or_ (.not_ (.bi (.isi .tuple) (.cons (.val (.var 2)) .nil))) (.or_ (.not_ (.var 2)) (.op .eq (.val (.call 13 (.cons (.val (.var 0)) (.cons (.ref 1) (.cons (.val (.const (.int 4))) .nil))))) (.val (.const (.int 0)))))) (.cons (.asg (.nm 4) (.lst (.cons (.const .none) (.cons (.const (.bool true)) (.cons (.const (.bool false)) (.cons (.const (.int 0)) (.cons (.const (.int 1)) (.cons (.neg (.const (.int 1))) (.cons (.const (.int 3)) (.cons (.const (.str ⟨#[97]⟩)) (.cons (.const (.str ⟨#[98]⟩)) (.cons (.const (.str ⟨#[]⟩)) (.cons (.const (.str ⟨#[65]⟩)) (.cons (.const (.str ⟨#[110, 111]⟩)) (.cons (.const (.str ⟨#[115, 97, 121]⟩)) (.cons (.const (.str ⟨#[115, 105, 122, 101]⟩)) (.cons (.tup .nil) .nil)))))))))))))))))
    (.cons (.asg (.nm 4) (.op .add (.val (.var 4)) (.val (.lst (.cons (.lst .nil) (.cons (.tup (.cons (.const (.str ⟨#[97]⟩)) .nil)) (.cons (.tup (.cons (.const (.str ⟨#[115, 97, 121]⟩)) (.cons (.const (.str ⟨#[98]⟩)) .nil))) (.cons (.tup (.cons (.const (.str ⟨#[115, 105, 122, 101]⟩)) (.cons (.const (.int 0)) .nil))) .nil))))))))
    (.cons (.ite (.bi (.isi .tuple) (.cons (.val (.var 2)) .nil)) (.cons (.asg (.nm 4) (.op .add (.val (.var 4)) (.val (.lst (.cons (.bi .list (.cons (.val (.var 2)) .nil)) (.cons (.slice (.val (.var 2)) .none (.some (.neg (.const (.int 1))))) (.cons (.op .add (.val (.var 2)) (.val (.slice (.val (.var 2)) (.some (.neg (.const (.int 1)))) .none))) (.cons (.slice (.val (.var 2)) (.some (.const (.int 1))) .none) (.cons (.rev (.val (.var 2))) (.cons (.op .add (.val (.var 2)) (.val (.tup (.cons (.const .none) .nil)))) .nil))))))))))
    .nil) .nil)
    (.cons (.ite (.bi (.isi .int) (.cons (.val (.var 2)) .nil)) (.cons (.asg (.nm 4) (.op .add (.val (.var 4)) (.val (.op .mul (.val (.lst (.cons (.op .add (.val (.var 2)) (.val (.const (.int 1)))) (.cons (.op .sub (.val (.var 2)) (.val (.const (.int 1)))) (.cons (.not_ (.var 2)) (.cons (.tup (.cons (.var 2) .nil)) (.cons (.bi .str (.cons (.val (.var 2)) .nil)) .nil))))))) (.val (.const (.int 2)))))))
    .nil) .nil)
    (.cons (.ret (.call 14 (.cons (.val (.var 0)) (.cons (.ref 1) (.cons (.val (.var 4)) .nil)))))
    .nil))))) .nil)
    (.cons (.asg (.nm 3) (.call 13 (.cons (.val (.var 0)) (.cons (.ref 1) (.cons (.val (.bi .len (.cons (.val (.var 2)) .nil))) .nil)))))
    (.cons (.ret (.op .add (.val (.op .add (.val (.slice (.val (.var 2)) .none (.some (.var 3)))) (.val (.tup (.cons (.call 19 (.cons (.val (.var 0)) (.cons (.ref 1) (.cons (.val (.idx (.val (.var 2)) (.val (.var 3)))) .nil)))) .nil))))) (.val (.slice (.val (.var 2)) (.some (.op .add (.val (.var 3)) (.val (.const (.int 1))))) .none))))
    .nil))) }
def F_l_holes : Fn := { ins := [false], names := ["_law_system", "_law_found", "_law_form", "_law_piece"], body := (.cons (.asg (.nm 1) (.lst .nil))
    (.cons (.for_ (.nm 2) (.seq (.idx (.val (.var 0)) (.val (.const (.int 1))))) (.cons (.asg (.nm 1) (.op .add (.val (.var 1)) (.val (.comp (.var 3) (.nm 3) (.seq (.var 2)) (.some (.op .ne (.val (.idx (.val (.var 3)) (.val (.const (.int 0))))) (.val (.const (.str ⟨#[115, 97, 121]⟩))))) [3]))))
    .nil))
    (.cons (.ret (.var 1))
    .nil))) }
def F_l_words : Fn := { ins := [false, false], names := ["_law_system", "_law_hole"], body := (.cons (.ret (.ite (.op .eq (.val (.idx (.val (.var 1)) (.val (.const (.int 0))))) (.val (.const (.str ⟨#[109, 111, 114, 101]⟩)))) (.lst (.cons (.const (.str ⟨#[110, 111]⟩)) (.cons (.const (.str ⟨#[121, 101, 115]⟩)) .nil))) (.bi .list (.cons (.val (.idx (.val (.var 0)) (.val (.const (.int 0))))) .nil))))
    .nil) }
def F_l_letters : Fn := { ins := [false, false], names := ["_law_thing", "_law_most", "_law_sign"], body := (.cons (.ite (.or_ (.not_ (.bi (.isi .str) (.cons (.val (.var 0)) .nil))) (.not_ (.chain .lt .le (.const (.int 0)) (.bi .len (.cons (.val (.var 0)) .nil)) (.var 1)))) (.cons (.ret (.const (.bool false)))
    .nil) .nil)
    (.cons (.ret (.op .eq (.val (.comp (.var 2) (.nm 2) (.seq (.var 0)) (.some (.not_ (.chain .le .le (.const (.str ⟨#[97]⟩)) (.var 2) (.const (.str ⟨#[122]⟩))))) [2])) (.val (.lst .nil))))
    .nil)) }
def F_l_is_piece : Fn := { ins := [false, false], names := ["_law_thing", "_law_many", "_law_sizes", "_law_most", "_law_one"], body := (.cons (.ite (.or_ (.not_ (.bi (.isi .tuple) (.cons (.val (.var 0)) .nil))) (.or_ (.op .lt (.val (.bi .len (.cons (.val (.var 0)) .nil))) (.val (.const (.int 2)))) (.not_ (.bi (.isi .str) (.cons (.val (.idx (.val (.var 0)) (.val (.const (.int 0))))) .nil))))) (.cons (.ret (.const (.bool false)))
    .nil) .nil)
    (.cons (.ite (.op .eq (.val (.idx (.val (.var 0)) (.val (.const (.int 0))))) (.val (.const (.str ⟨#[115, 97, 121]⟩)))) (.cons (.ret (.and_ (.op .eq (.val (.bi .len (.cons (.val (.var 0)) .nil))) (.val (.const (.int 2)))) (.call 24 (.cons (.val (.idx (.val (.var 0)) (.val (.const (.int 1))))) (.cons (.val (.const (.int 9))) .nil)))))
    .nil) .nil)
    (.cons (.asgC 2 (.dict [((.inr ⟨#[115, 105, 103, 110]⟩), (.int 3)), ((.inr ⟨#[102, 105, 114, 115, 116]⟩), (.int 3)), ((.inr ⟨#[119, 111, 114, 100]⟩), (.int 3)), ((.inr ⟨#[112, 108, 97, 99, 101]⟩), (.int 3)), ((.inr ⟨#[115, 105, 122, 101]⟩), (.int 2)), ((.inr ⟨#[117, 110, 108, 105, 107, 101]⟩), (.int 2)), ((.inr ⟨#[108, 111, 110, 103, 101, 115, 116]⟩), (.int 2)), ((.inr ⟨#[109, 111, 114, 101]⟩), (.int 4))]))
    (.cons (.ite (.or_ (.op .ne (.val (.dget 2 (.idx (.val (.var 0)) (.val (.const (.int 0)))) (.const (.int 0)))) (.val (.bi .len (.cons (.val (.var 0)) .nil)))) (.not_ (.bi (.isi .int) (.cons (.val (.idx (.val (.var 0)) (.val (.neg (.const (.int 1)))))) .nil)))) (.cons (.ret (.const (.bool false)))
    .nil) .nil)
    (.cons (.ite (.bi (.isi .bool) (.cons (.val (.idx (.val (.var 0)) (.val (.neg (.const (.int 1)))))) .nil)) (.cons (.ret (.const (.bool false)))
    .nil) .nil)
    (.cons (.ite (.or_ (.not_ (.chain .le .lt (.const (.int 0)) (.idx (.val (.var 0)) (.val (.neg (.const (.int 1))))) (.var 1))) (.and_ (.op .eq (.val (.idx (.val (.var 0)) (.val (.const (.int 0))))) (.val (.const (.str ⟨#[109, 111, 114, 101]⟩)))) (.op .eq (.val (.idx (.val (.var 0)) (.val (.const (.int 1))))) (.val (.idx (.val (.var 0)) (.val (.const (.int 2)))))))) (.cons (.ret (.const (.bool false)))
    .nil) .nil)
    (.cons (.asg (.nm 3) (.ite (.op .in_ (.val (.idx (.val (.var 0)) (.val (.const (.int 0))))) (.val (.tup (.cons (.const (.str ⟨#[119, 111, 114, 100]⟩)) (.cons (.const (.str ⟨#[112, 108, 97, 99, 101]⟩)) .nil))))) (.const (.int 9)) (.const (.int 1))))
    (.cons (.ret (.op .eq (.val (.comp (.var 4) (.nm 4) (.seq (.slice (.val (.var 0)) (.some (.const (.int 1))) (.some (.neg (.const (.int 1)))))) (.some (.not_ (.call 24 (.cons (.val (.var 4)) (.cons (.val (.var 3)) .nil))))) [4])) (.val (.lst .nil))))
    .nil)))))))) }
def F_l_is_system : Fn := { ins := [false], names := ["_law_thing", "_law_form", "_law_numerals", "_law_forms", "_law_one"], body := (.cons (.ite (.or_ (.not_ (.bi (.isi .tuple) (.cons (.val (.var 0)) .nil))) (.op .ne (.val (.bi .len (.cons (.val (.var 0)) .nil))) (.val (.const (.int 2))))) (.cons (.ret (.const (.bool false)))
    .nil) .nil)
    (.cons (.ite (.comp (.var 4) (.nm 4) (.seq (.var 0)) (.some (.not_ (.bi (.isi .tuple) (.cons (.val (.var 4)) .nil)))) [4]) (.cons (.ret (.const (.bool false)))
    .nil) .nil)
    (.cons (.asg (.tp [2, 3]) (.var 0))
    (.cons (.ite (.or_ (.not_ (.chain .lt .le (.const (.int 0)) (.bi .len (.cons (.val (.var 2)) .nil)) (.const (.int 20)))) (.comp (.var 4) (.nm 4) (.seq (.var 2)) (.some (.not_ (.call 24 (.cons (.val (.var 4)) (.cons (.val (.const (.int 9))) .nil))))) [4])) (.cons (.ret (.const (.bool false)))
    .nil) .nil)
    (.cons (.ite (.or_ (.op .lt (.val (.bi .lenset (.cons (.val (.var 2)) .nil))) (.val (.bi .len (.cons (.val (.var 2)) .nil)))) (.not_ (.chain .lt .lt (.const (.int 0)) (.bi .len (.cons (.val (.var 3)) .nil)) (.const (.int 4))))) (.cons (.ret (.const (.bool false)))
    .nil) .nil)
    (.cons (.for_ (.nm 1) (.seq (.var 3)) (.cons (.ite (.or_ (.not_ (.bi (.isi .tuple) (.cons (.val (.var 1)) .nil))) (.not_ (.chain .lt .le (.const (.int 0)) (.bi .len (.cons (.val (.var 1)) .nil)) (.const (.int 12))))) (.cons (.ret (.const (.bool false)))
    .nil) .nil)
    (.cons (.ite (.comp (.var 4) (.nm 4) (.seq (.var 1)) (.some (.not_ (.call 25 (.cons (.val (.var 4)) (.cons (.val (.bi .len (.cons (.val (.var 3)) .nil))) .nil))))) [4]) (.cons (.ret (.const (.bool false)))
    .nil) .nil)
    .nil)))
    (.cons (.ret (.chain .lt .le (.const (.int 0)) (.bi .len (.cons (.val (.call 20 (.cons (.val (.var 0)) .nil))) .nil)) (.const (.int 6))))
    .nil))))))) }
def F_l_filling_holds : Fn := { ins := [false, true, false], names := ["_law_script", "_law_town", "_law_system", "_law_sizes", "_law_product", "_law_size", "_law_worths", "_law_things", "_law_thing", "_law_due", "_law_hole", "_law_one"], body := (.cons (.asg (.nm 3) (.comp (.bi .len (.cons (.val (.call 21 (.cons (.val (.var 2)) (.cons (.val (.var 10)) .nil)))) .nil)) (.nm 10) (.seq (.call 20 (.cons (.val (.var 2)) .nil))) .none [10]))
    (.cons (.asg (.nm 4) (.const (.int 1)))
    (.cons (.for_ (.nm 5) (.seq (.var 3)) (.cons (.asg (.nm 4) (.op .mul (.val (.var 4)) (.val (.var 5))))
    .nil))
    (.cons (.asg (.nm 6) (.bi .tuple (.cons (.val (.comp (.call 13 (.cons (.val (.var 0)) (.cons (.ref 1) (.cons (.val (.var 5)) .nil)))) (.nm 5) (.seq (.var 3)) .none [5])) .nil)))
    (.cons (.asg (.nm 7) (.lst (.cons (.var 6) (.cons (.bi .list (.cons (.val (.var 6)) .nil)) (.cons (.const .none) (.cons (.op .add (.val (.var 6)) (.val (.tup (.cons (.const (.int 0)) .nil)))) (.cons (.slice (.val (.var 6)) (.some (.const (.int 1))) .none) (.cons (.bi .tuple (.cons (.val (.var 3)) .nil)) .nil))))))))
    (.cons (.asg (.nm 7) (.op .add (.val (.var 7)) (.val (.lst (.cons (.op .add (.val (.slice (.val (.var 6)) (.some (.const (.int 1))) .none)) (.val (.tup (.cons (.const (.bool true)) .nil)))) (.cons (.op .add (.val (.slice (.val (.var 6)) (.some (.const (.int 1))) .none)) (.val (.tup (.cons (.neg (.const (.int 1))) .nil)))) (.cons (.tup .nil) .nil)))))))
    (.cons (.for_ (.nm 8) (.seq (.var 7)) (.cons (.asg (.nm 9) (.and_ (.bi (.isi .tuple) (.cons (.val (.var 8)) .nil)) (.op .eq (.val (.bi .len (.cons (.val (.var 8)) .nil))) (.val (.bi .len (.cons (.val (.var 3)) .nil))))))
    (.cons (.asg (.nm 9) (.and_ (.var 9) (.op .eq (.val (.comp (.const (.int 1)) (.nm 11) (.seq (.var 8)) (.some (.bi (.isi .bool) (.cons (.val (.var 11)) .nil))) [11])) (.val (.lst .nil)))))
    (.cons (.asg (.nm 9) (.and_ (.var 9) (.op .eq (.val (.comp (.const (.int 1)) (.tp [11, 5]) (.zip (.var 8) (.var 3)) (.some (.not_ (.chain .le .lt (.const (.int 0)) (.var 11) (.var 5)))) [11, 5])) (.val (.lst .nil)))))
    (.cons (.ite (.not_ (.call 12 (.cons (.val (.call 10 (.cons (.val (.var 2)) (.cons (.val (.var 8)) .nil)))) (.cons (.val (.var 9)) .nil)))) (.cons (.ret (.const (.bool false)))
    .nil) .nil)
    .nil)))))
    (.cons (.ret (.and_ (.call 12 (.cons (.val (.call 11 (.cons (.val (.var 2)) .nil))) (.cons (.val (.var 4)) .nil))) (.call 12 (.cons (.val (.call 7 (.cons (.val (.var 2)) .nil))) (.cons (.val (.bi .tuple (.cons (.val (.call 20 (.cons (.val (.var 2)) .nil))) .nil))) .nil)))))
    .nil)))))))) }
def F_law_k01 : Fn := { ins := [false], names := ["_law_script", "_law_town", "_law_k", "_law_one", "_law_things", "_law_each_a", "_law_hole", "_law_numerals", "_law_forms", "_law_say", "_law_size", "_law_j", "_law_thing"], body := (.cons (.asgC 1 (.lst .nil))
    (.cons (.for_ (.nm 2) (.range1 (.const (.int 4))) (.cons (.asg (.nm 3) (.call 18 (.cons (.val (.var 0)) (.cons (.ref 1) (.cons (.val (.const (.int 4))) (.cons (.val (.const (.int 3))) .nil))))))
    (.cons (.asg (.tp [7, 8]) (.var 3))
    (.cons (.par [(9, false), (10, false)] (.cons (.tup (.cons (.const (.str ⟨#[115, 97, 121]⟩)) (.cons (.const (.str ⟨#[97, 98]⟩)) .nil))) (.cons (.tup (.cons (.const (.str ⟨#[115, 105, 122, 101]⟩)) (.cons (.const (.int 0)) .nil))) .nil)))
    (.cons (.asgC 4 (.lst (.cons (.var 3) (.cons (.bi .list (.cons (.val (.var 3)) .nil)) (.cons (.const .none) (.cons (.tup .nil) (.cons (.tup (.cons (.var 7) .nil)) (.cons (.tup (.cons (.tup .nil) (.cons (.var 8) .nil))) .nil))))))))
    (.cons (.asgC 4 (.op .add (.ref 4) (.val (.lst (.cons (.tup (.cons (.op .add (.val (.var 7)) (.val (.slice (.val (.var 7)) .none (.some (.const (.int 1)))))) (.cons (.var 8) .nil))) (.cons (.tup (.cons (.var 7) (.cons (.tup .nil) .nil))) (.cons (.tup (.cons (.var 7) (.cons (.op .mul (.val (.var 8)) (.val (.const (.int 4)))) .nil))) .nil)))))))
    (.cons (.asgC 4 (.op .add (.ref 4) (.val (.lst (.cons (.tup (.cons (.op .mul (.val (.tup (.cons (.const (.str ⟨#[97]⟩)) .nil))) (.val (.const (.int 2)))) (.cons (.tup (.cons (.tup (.cons (.var 10) .nil)) .nil)) .nil))) (.cons (.tup (.cons (.tup (.cons (.const (.str ⟨#[97, 98, 99, 100, 101, 102, 103, 104, 105]⟩)) .nil)) (.cons (.tup (.cons (.tup (.cons (.var 10) .nil)) .nil)) .nil))) .nil))))))
    (.cons (.asgC 4 (.op .add (.ref 4) (.val (.lst (.cons (.tup (.cons (.tup (.cons (.const (.str ⟨#[97, 98, 99, 100, 101, 102, 103, 104, 105, 106]⟩)) .nil)) (.cons (.tup (.cons (.tup (.cons (.var 10) .nil)) .nil)) .nil))) (.cons (.tup (.cons (.tup (.cons (.const (.str ⟨#[97]⟩)) .nil)) (.cons (.tup (.cons (.tup (.cons (.var 9) .nil)) .nil)) .nil))) .nil))))))
    (.cons (.asgC 4 (.op .add (.ref 4) (.val (.lst (.cons (.tup (.cons (.tup (.cons (.const (.str ⟨#[97]⟩)) .nil)) (.cons (.tup (.cons (.op .mul (.val (.tup (.cons (.var 10) .nil))) (.val (.const (.int 6)))) .nil)) .nil))) (.cons (.tup (.cons (.tup (.cons (.const (.str ⟨#[97]⟩)) .nil)) (.cons (.tup (.cons (.op .mul (.val (.tup (.cons (.var 10) .nil))) (.val (.const (.int 7)))) .nil)) .nil))) .nil))))))
    (.cons (.asgC 4 (.op .add (.ref 4) (.val (.lst (.cons (.tup (.cons (.tup (.cons (.const (.str ⟨#[97]⟩)) .nil)) (.cons (.tup (.cons (.op .add (.val (.op .mul (.val (.tup (.cons (.var 9) .nil))) (.val (.const (.int 11))))) (.val (.tup (.cons (.var 10) .nil)))) .nil)) .nil))) (.cons (.tup (.cons (.tup (.cons (.const (.str ⟨#[97]⟩)) .nil)) (.cons (.tup (.cons (.op .add (.val (.op .mul (.val (.tup (.cons (.var 9) .nil))) (.val (.const (.int 12))))) (.val (.tup (.cons (.var 10) .nil)))) .nil)) .nil))) .nil))))))
    (.cons (.asg (.nm 5) (.lst (.cons (.tup (.cons (.const (.str ⟨#[109, 111, 114, 101]⟩)) (.cons (.const (.str ⟨#[97]⟩)) (.cons (.const (.str ⟨#[97]⟩)) (.cons (.const (.int 0)) .nil))))) (.cons (.tup (.cons (.const (.str ⟨#[109, 111, 114, 101]⟩)) (.cons (.const (.str ⟨#[97]⟩)) (.cons (.const (.str ⟨#[98]⟩)) (.cons (.const (.int 0)) .nil))))) (.cons (.tup (.cons (.const (.str ⟨#[115, 105, 103, 110]⟩)) (.cons (.const (.str ⟨#[97, 98]⟩)) (.cons (.const (.int 0)) .nil)))) .nil)))))
    (.cons (.asg (.nm 5) (.op .add (.val (.var 5)) (.val (.lst (.cons (.tup (.cons (.const (.str ⟨#[119, 111, 114, 100]⟩)) (.cons (.const (.str ⟨#[97, 98]⟩)) (.cons (.const (.int 0)) .nil)))) (.cons (.tup (.cons (.const (.str ⟨#[115, 105, 122, 101]⟩)) (.cons (.const (.int 1)) .nil))) (.cons (.tup (.cons (.const (.str ⟨#[115, 105, 122, 101]⟩)) (.cons (.const (.bool true)) .nil))) (.cons (.tup (.cons (.const (.str ⟨#[115, 105, 103, 110]⟩)) (.cons (.const (.str ⟨#[97]⟩)) (.cons (.neg (.const (.int 1))) .nil)))) .nil))))))))
    (.cons (.for_ (.nm 6) (.seq (.var 5)) (.cons (.app 4 (.tup (.cons (.tup (.cons (.const (.str ⟨#[97]⟩)) .nil)) (.cons (.tup (.cons (.tup (.cons (.var 6) .nil)) .nil)) .nil))))
    .nil))
    (.cons (.asgC 4 (.op .add (.ref 4) (.val (.lst (.cons (.tup (.cons (.tup (.cons (.const (.str ⟨#[97]⟩)) .nil)) (.cons (.tup (.cons (.tup (.cons (.var 10) .nil)) (.cons (.tup (.cons (.var 9) .nil)) (.cons (.tup (.cons (.var 10) .nil)) .nil)))) .nil))) .nil)))))
    (.cons (.asgC 4 (.op .add (.ref 4) (.val (.lst (.cons (.tup (.cons (.tup (.cons (.const (.str ⟨#[97]⟩)) .nil)) (.cons (.tup (.cons (.tup (.cons (.var 10) .nil)) (.cons (.tup (.cons (.var 9) .nil)) (.cons (.tup (.cons (.var 10) .nil)) (.cons (.tup (.cons (.var 9) .nil)) .nil))))) .nil))) (.cons (.tup (.cons (.tup (.cons (.const (.str ⟨#[97]⟩)) .nil)) (.cons (.tup (.cons (.tup (.cons (.var 10) .nil)) (.cons (.tup .nil) .nil))) .nil))) .nil))))))
    (.cons (.asgC 4 (.op .add (.ref 4) (.val (.comp (.call 19 (.cons (.val (.var 0)) (.cons (.ref 1) (.cons (.val (.var 3)) .nil)))) (.nm 11) (.range1 (.const (.int 10))) .none [11]))))
    (.cons (.ite (.not_ (.bi .all (.cons (.val (.comp (.call 12 (.cons (.val (.call 6 (.cons (.val (.var 12)) .nil))) (.cons (.val (.call 26 (.cons (.val (.var 12)) .nil))) .nil))) (.nm 12) (.seq (.frz 4)) .none [12])) .nil))) (.cons (.ret (.const (.bool false)))
    .nil) .nil)
    (.cons (.ite (.not_ (.call 27 (.cons (.val (.var 0)) (.cons (.ref 1) (.cons (.val (.var 3)) .nil))))) (.cons (.ret (.const (.bool false)))
    .nil) .nil)
    .nil))))))))))))))))))
    (.cons (.ret (.const (.bool true)))
    .nil))) }
def prog_k01 : Prog := ⟨[(0, "is_whole", F_is_whole), (1, "is_word", F_is_word), (2, "are_numerals", F_are_numerals), (3, "is_part", F_is_part), (4, "is_hole", F_is_hole), (5, "is_piece", F_is_piece), (6, "is_system", F_is_system), (7, "holes_of", F_holes_of), (8, "words_for", F_words_for), (9, "sizes_of", F_sizes_of), (10, "is_filling", F_is_filling), (11, "how_many", F_how_many), (12, "_law_same", F_l_same), (13, "_law_draw", F_l_draw), (14, "_law_pick", F_l_pick), (15, "_law_mixed", F_l_mixed), (16, "_law_drawn_word", F_l_drawn_word), (17, "_law_drawn_hole", F_l_drawn_hole), (18, "_law_drawn_system", F_l_drawn_system), (19, "_law_bent", F_l_bent), (20, "_law_holes", F_l_holes), (21, "_law_words", F_l_words), (24, "_law_letters", F_l_letters), (25, "_law_is_piece", F_l_is_piece), (26, "_law_is_system", F_l_is_system), (27, "_law_filling_holds", F_l_filling_holds), (28, "law", F_law_k01)], [], [(0, "YES")], some "SIGNS"⟩
end Rf
end
section
set_option linter.all false
set_option maxRecDepth 100000
namespace Rf
open PySem
/-- the def f of a table is fn -/
class At (P : Nat → Option Fn) (f : Nat) (fn : Fn) : Prop where
  eq : P f = some fn
theorem run_at {P : Nat → Option Fn} {f n : Nat} (fn : Fn) [h : At P f fn] (xs : List X) : run P (n + 1) f xs = runFn (run P n) fn xs := run_succ h.eq xs
/-- a mark that a term bears: simp leaves the term alone -/
structure Mark {α : Type} (f : α) : Type where
def R.bnd {α β : Type} (r : R α) (f : α → Sl → R β) (_u : Mark f := .mk) : R β := r.bind f
def R.rn {α : Type} (r : R α) (f : α → Sl → F) (_u : Mark f := .mk) : F := r.run f
def F.sq (r : F) (f : Sl → F) (_u : Mark f := .mk) : F := r.seq f
@[simp] theorem R.bnd_ok {α β : Type} (a : α) (sl : Sl) (f : α → Sl → R β) (u : Mark f) : (R.ok a sl).bnd f u = f a sl := rfl
@[simp] theorem R.bnd_exc {α β : Type} (c : Nat) (sl : Sl) (f : α → Sl → R β) (u : Mark f) : (R.exc c sl : R α).bnd f u = .exc c sl := rfl
@[simp] theorem R.bnd_stuck {α β : Type} (f : α → Sl → R β) (u : Mark f) : (R.stuck : R α).bnd f u = .stuck := rfl
@[simp] theorem R.rn_ok {α : Type} (a : α) (sl : Sl) (f : α → Sl → F) (u : Mark f) : (R.ok a sl).rn f u = f a sl := rfl
@[simp] theorem R.rn_exc {α : Type} (c : Nat) (sl : Sl) (f : α → Sl → F) (u : Mark f) : (R.exc c sl : R α).rn f u = .exc c sl := rfl
@[simp] theorem R.rn_stuck {α : Type} (f : α → Sl → F) (u : Mark f) : (R.stuck : R α).rn f u = .stuck := rfl
@[simp] theorem F.sq_nx (sl : Sl) (f : Sl → F) (u : Mark f) : (F.nx sl).sq f u = f sl := rfl
@[simp] theorem F.sq_brk (sl : Sl) (f : Sl → F) (u : Mark f) : (F.brk sl).sq f u = .brk sl := rfl
@[simp] theorem F.sq_ret (d : D) (sl : Sl) (f : Sl → F) (u : Mark f) : (F.ret d sl).sq f u = .ret d sl := rfl
@[simp] theorem F.sq_exc (c : Nat) (sl : Sl) (f : Sl → F) (u : Mark f) : (F.exc c sl).sq f u = .exc c sl := rfl
@[simp] theorem F.sq_stuck (f : Sl → F) (u : Mark f) : F.stuck.sq f u = .stuck := rfl
/-- a for's turn, a while's test -/
def forB (Γ : Nat → List X → CR) (t : T) (body : Ss) : D → Sl → F := fun x sl => match assignT t x sl with
  | some sl => evalSs Γ body sl
  | none => .stuck
def whC (Γ : Nat → List X → CR) (c : L) : Sl → R Bool := fun sl => (evalE Γ c sl).bnd fun x sl => .ok (truth x) sl
section
variable (Γ : Nat → List X → CR) (sl : Sl)
@[simp] theorem evE_var (i : Nat) : evalE Γ (.var i) sl = R.of (getD sl i) sl := by simp only [evalE] <;> rfl
@[simp] theorem evE_frz (i : Nat) : evalE Γ (.frz i) sl = frzD sl i := by simp only [evalE] <;> rfl
@[simp] theorem evE_peek (i : Nat) : evalE Γ (.peek i) sl = R.of (peekD sl i) sl := by simp only [evalE] <;> rfl
@[simp] theorem evE_const (c : D) : evalE Γ (.const c) sl = .ok c sl := by simp only [evalE] <;> rfl
@[simp] theorem evE_glob (g : Nat) : evalE Γ (.glob g) sl = R.of (globD g) sl := by simp only [evalE] <;> rfl
@[simp] theorem evE_tup (es : Ls) : evalE Γ (.tup es) sl = (evalLs Γ es sl).bnd fun xs sl => if xs.length ≤ sizeLine then .ok (.tuple xs) sl else .stuck := by simp only [evalE] <;> rfl
@[simp] theorem evE_lst (es : Ls) : evalE Γ (.lst es) sl = (evalLs Γ es sl).bnd fun xs sl => if xs.length ≤ sizeLine then .ok (.list xs) sl else .stuck := by simp only [evalE] <;> rfl
@[simp] theorem evE_op (o : O2) (a b : Z) : evalE Γ (.op o a b) sl = (evalZ Γ a sl).bnd fun x sl => (evalZ Γ b sl).bnd fun y sl => R.of (res2 sl x y (sem2 o)) sl := by simp only [evalE] <;> rfl
@[simp] theorem evE_chain (o p : O2) (a b c : L) : evalE Γ (.chain o p a b c) sl = (evalE Γ a sl).bnd fun x sl => (evalE Γ b sl).bnd fun y sl => match sem2 o x y with
    | some (.bool true) => (evalE Γ c sl).bnd fun z sl => R.of (sem2 p y z) sl
    | some (.bool false) => .ok (.bool false) sl
    | _ => .stuck := by simp only [evalE] <;> rfl
@[simp] theorem evE_and (a b : L) : evalE Γ (.and_ a b) sl = (evalE Γ a sl).bnd fun x sl => if truth x then evalE Γ b sl else .ok x sl := by simp only [evalE] <;> rfl
@[simp] theorem evE_or (a b : L) : evalE Γ (.or_ a b) sl = (evalE Γ a sl).bnd fun x sl => if truth x then .ok x sl else evalE Γ b sl := by simp only [evalE] <;> rfl
@[simp] theorem evE_not (a : L) : evalE Γ (.not_ a) sl = (evalE Γ a sl).bnd fun x sl => .ok (.bool (!truth x)) sl := by simp only [evalE] <;> rfl
@[simp] theorem evE_ite (t a b : L) : evalE Γ (.ite t a b) sl = (evalE Γ t sl).bnd fun x sl => if truth x then evalE Γ a sl else evalE Γ b sl := by simp only [evalE] <;> rfl
@[simp] theorem evE_call (f : Nat) (as : As) : evalE Γ (.call f as) sl = (evalAs Γ as sl).bnd fun xs sl => doCall Γ f xs sl := by simp only [evalE] <;> rfl
@[simp] theorem evE_bi (b : Bi) (as : As) : evalE Γ (.bi b as) sl = (evalAs Γ as sl).bnd fun zs sl => R.of ((resolve sl zs).bind (semB b)) sl := by simp only [evalE] <;> rfl
@[simp] theorem evE_idx (a i : Z) : evalE Γ (.idx a i) sl = (evalZ Γ a sl).bnd fun x sl => (evalZ Γ i sl).bnd fun y sl => R.of (res2 sl x y sIdx) sl := by simp only [evalE] <;> rfl
@[simp] theorem evE_slice (a : Z) (lo hi : Ol) : evalE Γ (.slice a lo hi) sl = (evalZ Γ a sl).bnd fun z sl => (evalOl Γ lo sl).bnd fun l sl => (evalOl Γ hi sl).bnd fun h sl => R.of (res1 sl z fun x => sCut x l h) sl := by simp only [evalE] <;> rfl
@[simp] theorem evE_rev (a : Z) : evalE Γ (.rev a) sl = (evalZ Γ a sl).bnd fun z sl => R.of (res1 sl z sRev) sl := by simp only [evalE] <;> rfl
@[simp] theorem evE_neg_int (a : L) : evalE Γ (.neg a) sl = (evalE Γ a sl).bnd fun x sl => match x with
    | .int i => .ok (.int (-i)) sl
    | _ => .stuck := by simp only [evalE] <;> rfl
@[simp] theorem evLs_nil : evalLs Γ .nil sl = .ok [] sl := by simp only [evalLs] <;> rfl
@[simp] theorem evLs_cons (a : L) (r : Ls) : evalLs Γ (.cons a r) sl = (evalE Γ a sl).bnd fun x sl => (evalLs Γ r sl).bnd fun xs sl => .ok (x :: xs) sl := by simp only [evalLs] <;> rfl
@[simp] theorem evZ_val (a : L) : evalZ Γ (.val a) sl = (evalE Γ a sl).bnd fun x sl => .ok (.inl x) sl := by simp only [evalZ] <;> rfl
@[simp] theorem evZ_ref (i : Nat) : evalZ Γ (.ref i) sl = if isSet sl i then .ok (.inr i) sl else .stuck := by simp only [evalZ] <;> rfl
@[simp] theorem evAs_nil : evalAs Γ .nil sl = .ok [] sl := by simp only [evalAs] <;> rfl
@[simp] theorem evAs_cons (z : Z) (r : As) : evalAs Γ (.cons z r) sl = (evalZ Γ z sl).bnd fun x sl => (evalAs Γ r sl).bnd fun xs sl => .ok (x :: xs) sl := by simp only [evalAs] <;> rfl
@[simp] theorem evOl_none : evalOl Γ .none sl = .ok none sl := by simp only [evalOl] <;> rfl
@[simp] theorem evOl_some (a : L) : evalOl Γ (.some a) sl = (evalE Γ a sl).bnd fun x sl => match x with
    | .int i => .ok (some i) sl
    | _ => .stuck := by simp only [evalOl] <;> rfl
@[simp] theorem evC_none : evalC Γ .none sl = .ok true sl := by simp only [evalC] <;> rfl
@[simp] theorem evC_some (a : L) : evalC Γ (.some a) sl = (evalE Γ a sl).bnd fun x sl => .ok (truth x) sl := by simp only [evalC] <;> rfl
@[simp] theorem evI_seq (a : L) : evalI Γ (.seq a) sl = (evalE Γ a sl).bnd fun x sl => R.of (items x) sl := by simp only [evalI] <;> rfl
@[simp] theorem evI_range1 (a : L) : evalI Γ (.range1 a) sl = (evalE Γ a sl).bnd fun x sl => match x with
    | .int n => if smallI n then .ok (rangeD 0 n.toNat) sl else .stuck
    | _ => .stuck := by simp only [evalI] <;> rfl
@[simp] theorem evI_range2 (a b : L) : evalI Γ (.range2 a b) sl = (evalE Γ a sl).bnd fun x sl => (evalE Γ b sl).bnd fun y sl => match x, y with
    | .int i, .int j => if smallI i && smallI j then .ok (rangeD i (j - i).toNat) sl else .stuck
    | _, _ => .stuck := by simp only [evalI] <;> rfl
@[simp] theorem evI_zip (a b : L) : evalI Γ (.zip a b) sl = (evalE Γ a sl).bnd fun x sl => (evalE Γ b sl).bnd fun y sl => match items x, items y with
    | some xs, some ys => .ok (zipD xs ys) sl
    | _, _ => .stuck := by simp only [evalI] <;> rfl
@[simp] theorem evI_enum (a : L) : evalI Γ (.enum a) sl = (evalE Γ a sl).bnd fun x sl => R.of ((items x).map enumD) sl := by simp only [evalI] <;> rfl
@[simp] theorem evSs_nil : evalSs Γ .nil sl = .nx sl := by simp only [evalSs] <;> rfl
@[simp] theorem evSs_cons (s : S) (r : Ss) : evalSs Γ (.cons s r) sl = (evalS Γ s sl).sq fun sl => evalSs Γ r sl := by simp only [evalSs] <;> rfl
@[simp] theorem evS_asg (t : T) (e : L) : evalS Γ (.asg t e) sl = (evalE Γ e sl).rn fun x sl => F.of (assignT t x sl) := by simp only [evalS] <;> rfl
@[simp] theorem evS_asgC (i : Nat) (e : L) : evalS Γ (.asgC i e) sl = (evalN Γ e sl).rn fun c sl => .nx (sl.set i (some (.cell true c))) := by simp only [evalS] <;> rfl
@[simp] theorem evS_par (ts : List (Nat × Bool)) (es : Ls) : evalS Γ (.par ts es) sl = (evalPs Γ (ts.map (·.2)) es sl).rn fun xs sl => F.of (setPar sl ts xs) := by simp only [evalS] <;> rfl
@[simp] theorem evS_setI (i : Nat) (k v : L) : evalS Γ (.setI i k v) sl = (evalE Γ v sl).rn fun x sl => if isSet sl i then (evalE Γ k sl).rn fun y sl => F.of (updCell sl i (cSet y x)) else .stuck := by simp only [evalS] <;> rfl
@[simp] theorem evS_setD (i : Nat) (k v : L) : evalS Γ (.setD i k v) sl = (evalE Γ v sl).rn fun x sl => if isSet sl i then (evalE Γ k sl).rn fun y sl => F.of (updCell sl i (cPut y x)) else .stuck := by simp only [evalS] <;> rfl
@[simp] theorem evS_app (i : Nat) (e : L) : evalS Γ (.app i e) sl = if isLst sl i then (evalE Γ e sl).rn fun x sl => F.of (updCell sl i (cAppend x)) else .stuck := by simp only [evalS] <;> rfl
@[simp] theorem evS_expr (e : L) : evalS Γ (.expr e) sl = (evalE Γ e sl).rn fun _ sl => .nx sl := by simp only [evalS] <;> rfl
@[simp] theorem evS_ite (c : L) (a b : Ss) : evalS Γ (.ite c a b) sl = (evalE Γ c sl).rn fun x sl => if truth x then evalSs Γ a sl else evalSs Γ b sl := by simp only [evalS] <;> rfl
@[simp] theorem evS_for (t : T) (it : I) (body : Ss) : evalS Γ (.for_ t it body) sl = (evalI Γ it sl).rn fun xs sl => forLoop (forB Γ t body) xs sl := by simp only [evalS] <;> rfl
@[simp] theorem evS_while (c : L) (body : Ss) : evalS Γ (.while_ c body) sl = whileLoop (whC Γ c) (evalSs Γ body) fuel sl := by simp only [evalS] <;> rfl
@[simp] theorem evS_ret (e : L) : evalS Γ (.ret e) sl = (evalE Γ e sl).rn fun x sl => .ret x sl := by simp only [evalS] <;> rfl
@[simp] theorem evS_retN : evalS Γ .retN sl = .ret .none sl := by simp only [evalS] <;> rfl
@[simp] theorem evS_raise (c : Nat) : evalS Γ (.raise c) sl = .exc c sl := by simp only [evalS] <;> rfl
@[simp] theorem evS_aug (i : Nat) (e : L) : evalS Γ (.aug i e) sl = match getD sl i with
    | some x => (evalE Γ e sl).rn fun y sl => F.of ((sAug x y).map fun z => sl.set i (some (.d z)))
    | none => .stuck := by simp only [evalS] <;> rfl
end
@[simp] theorem getD_zero (x : D) (r : Sl) : getD (some (.d x) :: r) 0 = some x := rfl
@[simp] theorem getD_succ (y : Option X) (r : Sl) (i : Nat) : getD (y :: r) (i + 1) = getD r i := rfl
@[simp] theorem peekD_zero (x : D) (r : Sl) : peekD (some (.d x) :: r) 0 = some x := rfl
@[simp] theorem peekD_zeroL (b : Bool) (xs : List D) (r : Sl) : peekD (some (.cell b (.lst xs)) :: r) 0 = some (.list xs) := rfl
@[simp] theorem peekD_zeroK (b : Bool) (xs : List (DK × D)) (r : Sl) : peekD (some (.cell b (.dK xs)) :: r) 0 = some (.dict (kvD xs)) := rfl
@[simp] theorem peekD_succ (y : Option X) (r : Sl) (i : Nat) : peekD (y :: r) (i + 1) = peekD r i := rfl
@[simp] theorem isSet_zero (x : X) (r : Sl) : isSet (some x :: r) 0 = true := rfl
@[simp] theorem isSet_succ (y : Option X) (r : Sl) (i : Nat) : isSet (y :: r) (i + 1) = isSet r i := rfl
@[simp] theorem isLst_zero (b : Bool) (xs : List D) (r : Sl) : isLst (some (.cell b (.lst xs)) :: r) 0 = true := rfl
@[simp] theorem isLst_succ (y : Option X) (r : Sl) (i : Nat) : isLst (y :: r) (i + 1) = isLst r i := rfl
@[simp] theorem isData_zeroD (x : D) (r : Sl) : isData (some (.d x) :: r) 0 = true := rfl
@[simp] theorem isData_zeroN (r : Sl) : isData (none :: r) 0 = true := rfl
@[simp] theorem isData_zeroC (b : Bool) (c : Cell) (r : Sl) : isData (some (.cell b c) :: r) 0 = false := rfl
@[simp] theorem isData_succ (y : Option X) (r : Sl) (i : Nat) : isData (y :: r) (i + 1) = isData r i := rfl
@[simp] theorem zD_inl (sl : Sl) (x : D) : zD sl (.inl x) = some x := rfl
@[simp] theorem zD_inr (sl : Sl) (i : Nat) : zD sl (.inr i) = peekD sl i := rfl
@[simp] theorem resolve_nil (sl : Sl) : resolve sl [] = some [] := rfl
@[simp] theorem resolve_cons (sl : Sl) (z : D ⊕ Nat) (r : List (D ⊕ Nat)) : resolve sl (z :: r) = (zD sl z).bind fun x => (resolve sl r).map (x :: ·) := rfl
@[simp] theorem res1_def {α : Type} (sl : Sl) (x : D ⊕ Nat) (g : D → Option α) : res1 sl x g = (zD sl x).bind g := rfl
@[simp] theorem res2_def {α : Type} (sl : Sl) (x y : D ⊕ Nat) (g : D → D → Option α) : res2 sl x y g = (zD sl x).bind fun a => (zD sl y).bind fun b => g a b := rfl
@[simp] theorem assignT_nm (i : Nat) (x : D) (sl : Sl) : assignT (.nm i) x sl = some (sl.set i (some (.d x))) := rfl
@[simp] theorem assignT_tp (is : List Nat) (xs : List D) (sl : Sl) : assignT (.tp is) (.tuple xs) sl = setAll sl is xs := rfl
@[simp] theorem setAll_nil (sl : Sl) : setAll sl [] [] = some sl := rfl
@[simp] theorem setAll_cons (sl : Sl) (i : Nat) (is : List Nat) (x : D) (xs : List D) : setAll sl (i :: is) (x :: xs) = setAll (sl.set i (some (.d x))) is xs := rfl
@[simp] theorem wipeSl_nil (sl : Sl) : wipeSl sl [] = sl := rfl
@[simp] theorem wipeSl_cons (sl : Sl) (v : Nat) (vs : List Nat) : wipeSl sl (v :: vs) = (wipeSl sl vs).set v none := rfl
@[simp] theorem updCell_zero (b : Bool) (c : Cell) (r : Sl) (f : Cell → Option Cell) : updCell (some (.cell b c) :: r) 0 f = (f c).map fun c' => some (.cell b c') :: r := rfl
@[simp] theorem updCell_succ (y : Option X) (r : Sl) (i : Nat) (f : Cell → Option Cell) : updCell (y :: r) (i + 1) f = (updCell r i f).map (y :: ·) := by
  unfold updCell
  simp only [List.getElem?_cons_succ]
  cases h : r[i]? with
  | none => rfl
  | some x => cases x with
    | none => rfl
    | some x => cases x with
      | d _ => rfl
      | pin => rfl
      | cell b c => dsimp only; cases f c <;> rfl
@[simp] theorem frzD_zero (x : D) (r : Sl) : frzD (some (.d x) :: r) 0 = .ok x (some (.d x) :: r) := rfl
@[simp] theorem frzD_zeroL (xs : List D) (r : Sl) : frzD (some (.cell true (.lst xs)) :: r) 0 = .ok (.list xs) (some (.d (.list xs)) :: r) := rfl
def R.mapS {α : Type} (r : R α) (f : Sl → Sl) : R α := match r with
  | .ok a sl => .ok a (f sl)
  | .exc c sl => .exc c (f sl)
  | .stuck => .stuck
@[simp] theorem mapS_ok {α : Type} (a : α) (sl : Sl) (f : Sl → Sl) : (R.ok a sl).mapS f = .ok a (f sl) := rfl
@[simp] theorem frzD_succ (y : Option X) (r : Sl) (i : Nat) : frzD (y :: r) (i + 1) = (frzD r i).mapS (y :: ·) := by
  unfold frzD
  simp only [List.getElem?_cons_succ]
  cases h : r[i]? with
  | none => rfl
  | some x => cases x with
    | none => rfl
    | some x => cases x with
      | d _ => rfl
      | pin => rfl
      | cell b c => cases b with
        | false => rfl
        | true => dsimp only; cases cellD c <;> rfl
@[simp] theorem refsOf_nil : refsOf [] = [] := rfl
@[simp] theorem refsOf_inl (x : D) (r : List (D ⊕ Nat)) : refsOf (.inl x :: r) = refsOf r := rfl
@[simp] theorem refsOf_inr (i : Nat) (r : List (D ⊕ Nat)) : refsOf (.inr i :: r) = i :: refsOf r := rfl
@[simp] theorem nodupB_nil : nodupB [] = true := rfl
@[simp] theorem nodupB_one (i : Nat) : nodupB [i] = true := rfl
@[simp] theorem fillArgs_nil (sl : Sl) : fillArgs sl [] = some [] := rfl
@[simp] theorem fillArgs_inl (sl : Sl) (x : D) (r : List (D ⊕ Nat)) : fillArgs sl (.inl x :: r) = (fillArgs sl r).map (X.d x :: ·) := rfl
/-- a call with data alone -/
theorem doCall_data {Γ : Nat → List X → CR} {f : Nat} {as : List (D ⊕ Nat)} {sl : Sl} {xs : List X} {d : D} (hr : refsOf as = []) (hf : fillArgs sl as = some xs) (h : Γ f xs = .ok d []) : doCall Γ f as sl = .ok d sl := by
  unfold doCall
  rw [hr, hf]
  simp only [nodupB_nil, if_true, h]
  rfl
theorem doCall_exc {Γ : Nat → List X → CR} {f : Nat} {as : List (D ⊕ Nat)} {sl : Sl} {xs : List X} {e : Nat} (hr : refsOf as = []) (hf : fillArgs sl as = some xs) (h : Γ f xs = .exc e) : doCall Γ f as sl = .exc e sl := by
  unfold doCall
  rw [hr, hf]
  simp only [nodupB_nil, if_true, h]
@[simp] theorem doCall_1 (Γ : Nat → List X → CR) (f : Nat) (a : D) (sl : Sl) : doCall Γ f [.inl a] sl = (match Γ f [.d a] with | .ok d [] => .ok d sl | .exc e => .exc e sl | _ => .stuck) := by
  unfold doCall
  simp
  cases Γ f [.d a] with
  | ok d outs => cases outs <;> rfl
  | exc e => rfl
  | stuck => rfl
@[simp] theorem doCall_2 (Γ : Nat → List X → CR) (f : Nat) (a b : D) (sl : Sl) : doCall Γ f [.inl a, .inl b] sl = (match Γ f [.d a, .d b] with | .ok d [] => .ok d sl | .exc e => .exc e sl | _ => .stuck) := by
  unfold doCall
  simp
  cases Γ f [.d a, .d b] with
  | ok d outs => cases outs <;> rfl
  | exc e => rfl
  | stuck => rfl
@[simp] theorem doCall_3 (Γ : Nat → List X → CR) (f : Nat) (a b c : D) (sl : Sl) : doCall Γ f [.inl a, .inl b, .inl c] sl = (match Γ f [.d a, .d b, .d c] with | .ok d [] => .ok d sl | .exc e => .exc e sl | _ => .stuck) := by
  unfold doCall
  simp
  cases Γ f [.d a, .d b, .d c] with
  | ok d outs => cases outs <;> rfl
  | exc e => rfl
  | stuck => rfl
@[simp] theorem doCall_4 (Γ : Nat → List X → CR) (f : Nat) (a b c e : D) (sl : Sl) : doCall Γ f [.inl a, .inl b, .inl c, .inl e] sl = (match Γ f [.d a, .d b, .d c, .d e] with | .ok d [] => .ok d sl | .exc e => .exc e sl | _ => .stuck) := by
  unfold doCall
  simp
  cases Γ f [.d a, .d b, .d c, .d e] with
  | ok d outs => cases outs <;> rfl
  | exc e => rfl
  | stuck => rfl
/-- a call that hands over one mutable list, second -/
theorem doCall_town {Γ : Nat → List X → CR} {f i : Nat} {s : D} {as : List D} {sl : Sl} {own : Bool} {c c' : Cell} {d : D} (hi : sl[i]? = some (some (.cell own c))) (h : Γ f (.d s :: .cell false c :: as.map .d) = .ok d [c']) :
    doCall Γ f (.inl s :: .inr i :: as.map .inl) sl = .ok d (sl.set i (some (.cell own c'))) := by
  have hr : ∀ as : List D, refsOf (as.map Sum.inl) = [] := fun as => by induction as with | nil => rfl | cons a r ih => exact ih
  have hf : ∀ as : List D, fillArgs sl (as.map Sum.inl) = some (as.map X.d) := fun as => by
    induction as with
    | nil => rfl
    | cons a r ih => show (fillArgs sl (r.map Sum.inl)).map _ = _; rw [ih]; rfl
  unfold doCall
  have e1 : refsOf (.inl s :: .inr i :: as.map .inl) = [i] := by show i :: refsOf _ = _; rw [hr]
  have e2 : fillArgs sl (.inl s :: .inr i :: as.map .inl) = some (.d s :: .cell false c :: as.map .d) := by
    show (fillArgs sl (.inr i :: as.map .inl)).map _ = _
    unfold fillArgs
    rw [hi]
    dsimp only
    rw [hf]; rfl
  rw [e1, e2, if_pos (nodupB_one i)]
  dsimp only
  rw [h]
  dsimp only
  unfold putBack
  rw [hi]
  rfl
theorem runFn_data {Γ : Nat → List X → CR} {fn : Fn} {xs : List X} {d : D} {sl : Sl} (h1 : argsFit fn.ins xs = true) (h2 : evalSs Γ fn.body (startSl fn xs) = .ret d sl) (h3 : outsOf sl 0 fn.ins = some []) : runFn Γ fn xs = .ok d [] := by
  unfold runFn
  rw [if_pos h1, h2]
  unfold endFn
  dsimp only
  rw [h3]
theorem forLoop_inv {body : D → Sl → F} {xs : List D} (I : Nat → Sl → Prop) (h : ∀ i x sl, xs[i]? = some x → I i sl → ∃ sl', body x sl = .nx sl' ∧ I (i + 1) sl') {sl : Sl} (h0 : I 0 sl) : ∃ sl', forLoop body xs sl = .nx sl' ∧ I xs.length sl' := by
  induction xs generalizing I sl with
  | nil => exact ⟨sl, rfl, h0⟩
  | cons x xs ih =>
    obtain ⟨sl1, e1, i1⟩ := h 0 x sl rfl h0
    obtain ⟨sl2, e2, i2⟩ := ih (fun i => I (i + 1)) (fun i y s hy hi => h (i + 1) y s (by simpa using hy) hi) i1
    refine ⟨sl2, ?_, i2⟩
    unfold forLoop
    rw [e1]
    exact e2
/-- a loop that ends with the first item found -/
theorem forLoop_find {body : D → Sl → F} {xs : List D} (I : Sl → Prop) (bad : D → Option D) (h : ∀ x ∈ xs, ∀ sl, I sl → (match bad x with | some d => ∃ sl', body x sl = .ret d sl' ∧ I sl' | none => ∃ sl', body x sl = .nx sl' ∧ I sl')) {sl : Sl} (h0 : I sl) :
    match xs.findSome? bad with
    | some d => ∃ sl', forLoop body xs sl = .ret d sl' ∧ I sl'
    | none => ∃ sl', forLoop body xs sl = .nx sl' ∧ I sl' := by
  induction xs generalizing sl with
  | nil => exact ⟨sl, rfl, h0⟩
  | cons x xs ih =>
    have hx := h x List.mem_cons_self sl h0
    rw [List.findSome?_cons]
    cases hb : bad x with
    | some d =>
      rw [hb] at hx
      obtain ⟨sl', e, i⟩ := hx
      exact ⟨sl', by unfold forLoop; rw [e], i⟩
    | none =>
      rw [hb] at hx
      obtain ⟨sl', e, i⟩ := hx
      have := ih (fun y hy => h y (List.mem_cons_of_mem _ hy)) i
      dsimp only
      cases hf : xs.findSome? bad with
      | some d =>
        rw [hf] at this
        obtain ⟨s2, e2, i2⟩ := this
        exact ⟨s2, by unfold forLoop; rw [e]; exact e2, i2⟩
      | none =>
        rw [hf] at this
        obtain ⟨s2, e2, i2⟩ := this
        exact ⟨s2, by unfold forLoop; rw [e]; exact e2, i2⟩
theorem compLoop_inv {turn : D → Sl → R (Option D)} {xs : List D} (I : Nat → List D → Sl → Prop) (h : ∀ i x acc sl, xs[i]? = some x → I i acc sl → acc.length ≤ i → ∃ r sl', turn x sl = .ok r sl' ∧ I (i + 1) (acc ++ r.toList) sl') (hl : xs.length ≤ sizeLine) {sl : Sl} (h0 : I 0 [] sl) :
    ∃ ys sl', compLoop turn xs [] sl = .ok ys sl' ∧ I xs.length ys sl' := by
  have key : ∀ (n : Nat) (acc : List D) (i : Nat) (sl : Sl), n = xs.length - i → i ≤ xs.length → acc.length ≤ i → I i acc sl → ∃ ys sl', compLoop turn (xs.drop i) acc sl = .ok ys sl' ∧ I xs.length ys sl' := by
    intro n
    induction n with
    | zero =>
      intro acc i sl hn hi ha hI
      have e : i = xs.length := by omega
      subst e
      rw [List.drop_length]
      exact ⟨acc, sl, rfl, hI⟩
    | succ n ih =>
      intro acc i sl hn hi ha hI
      have lt : i < xs.length := by omega
      rw [List.drop_eq_getElem_cons lt]
      obtain ⟨r, sl', e, i'⟩ := h i xs[i] acc sl (List.getElem?_eq_getElem lt) hI ha
      unfold compLoop
      rw [e]
      cases r with
      | none =>
        rw [Option.toList_none, List.append_nil] at i'
        exact ih acc (i + 1) sl' (by omega) lt (by omega) i'
      | some y =>
        dsimp only
        rw [if_pos (by omega)]
        exact ih (acc ++ [y]) (i + 1) sl' (by omega) lt (by simp; omega) i'
  simpa using key xs.length [] 0 sl rfl (Nat.zero_le _) (Nat.le_refl _) h0
/-- a comprehension whose turns write nothing -/
def turnW (Γ : Nat → List X → CR) (elt : L) (t : T) (cond : Ol) (x : D) (sl : Sl) : R (Option D) := match assignT t x sl with
  | none => .stuck
  | some sl => (evalC Γ cond sl).bnd fun b sl => if b then (evalE Γ elt sl).bnd fun y sl => .ok (some y) sl else .ok none sl
theorem restore_same {sl sl' : Sl} {own : List Nat} (h : wipeSl sl' own = wipeSl sl own) (hd : own.all (fun i => decide (i < sl.length)) = true) : restoreSl sl sl' own = sl := by
  have len : ∀ (s : Sl) (own : List Nat), (wipeSl s own).length = s.length := fun s own => by
    induction own with
    | nil => rfl
    | cons v vs ih => show ((wipeSl s vs).set v none).length = _; rw [List.length_set, ih]
  have hl : sl'.length = sl.length := by rw [← len sl' own, h, len]
  have rl : ∀ own, (restoreSl sl sl' own).length = sl'.length := fun own => by
    induction own with
    | nil => rfl
    | cons v vs ih => show ((restoreSl sl sl' vs).set v _).length = _; rw [List.length_set, ih]
  have rin : ∀ (own : List Nat) (j : Nat), (restoreSl sl sl' own)[j]? = if j ∈ own then (if j < sl'.length then some (sl[j]?.getD none) else none) else sl'[j]? := fun own j => by
    induction own with
    | nil => simp [restoreSl]
    | cons v vs ih =>
      show ((restoreSl sl sl' vs).set v _)[j]? = _
      by_cases hj : v = j
      · subst hj
        by_cases h2 : v < sl'.length
        · rw [List.getElem?_set_self (by rw [rl]; exact h2)]; simp [h2]
        · rw [List.getElem?_eq_none (by rw [List.length_set, rl]; omega)]; simp [h2]
      · rw [List.getElem?_set_ne hj, ih]
        have e : ¬ j = v := fun z => hj z.symm
        simp [List.mem_cons, e]
  have win : ∀ (s : Sl) (own : List Nat) (j : Nat), j ∉ own → (wipeSl s own)[j]? = s[j]? := fun s own j hn => by
    induction own with
    | nil => rfl
    | cons v vs ih =>
      show ((wipeSl s vs).set v none)[j]? = _
      rw [List.getElem?_set_ne fun e => hn (by rw [e]; exact List.mem_cons_self)]
      exact ih fun z => hn (List.mem_cons_of_mem _ z)
  refine List.ext_getElem? fun j => ?_
  rw [rin]
  by_cases hj : j ∈ own
  · have lt := of_decide_eq_true (List.all_eq_true.mp hd j hj)
    rw [if_pos hj, if_pos (by rw [hl]; exact lt), List.getElem?_eq_getElem lt]
    rfl
  · rw [if_neg hj, ← win sl' own j hj, h, win sl own j hj]
theorem evE_comp_eq {Γ : Nat → List X → CR} {elt : L} {t : T} {it : I} {cond : Ol} {own : List Nat} {sl : Sl} : evalE Γ (.comp elt t it cond own) sl = (evalI Γ it sl).bind fun xs sl0 => if own.all (isData sl0) then (compLoop (fun x sl => turnW Γ elt t cond x (wipeSl sl own)) xs [] sl0).bind fun ys sl => .ok (.list ys) (restoreSl sl0 sl own) else .stuck := by
  simp only [evalE]
  rfl
theorem evE_comp {Γ : Nat → List X → CR} {elt : L} {t : T} {it : I} {cond : Ol} {own : List Nat} {sl sl0 : Sl} {xs : List D} (f : D → Option D) (hi : evalI Γ it sl = .ok xs sl0) (hd : own.all (isData sl0) = true) (hb : own.all (fun i => decide (i < sl0.length)) = true) (hl : xs.length ≤ sizeLine)
    (hx : ∀ x ∈ xs, ∃ sl', turnW Γ elt t cond x (wipeSl sl0 own) = .ok (f x) sl' ∧ wipeSl sl' own = wipeSl sl0 own) : evalE Γ (.comp elt t it cond own) sl = .ok (.list (xs.filterMap f)) sl0 := by
  rw [evE_comp_eq, hi, R.bind_ok, if_pos hd]
  obtain ⟨ys, sl', e, e2, e3⟩ := compLoop_inv (turn := fun x sl => turnW Γ elt t cond x (wipeSl sl own)) (xs := xs) (fun i acc sl => wipeSl sl own = wipeSl sl0 own ∧ acc = (xs.take i).filterMap f) (fun i x acc sl hxi ⟨hw, ha⟩ _ => by
    obtain ⟨sl', e, e2⟩ := hx x (List.mem_of_getElem? hxi)
    refine ⟨f x, sl', by rw [hw]; exact e, e2, ?_⟩
    rw [List.take_add_one, hxi, ha, List.filterMap_append]
    cases h : f x <;> simp [h]) hl (sl := sl0) ⟨rfl, rfl⟩
  rw [e, R.bind_ok, restore_same e2 hb, e3, List.take_length]
/-- typed: the items are ys under g -/
theorem evE_compT {α : Type} {Γ : Nat → List X → CR} {elt : L} {t : T} {it : I} {cond : Ol} {own : List Nat} {sl sl0 : Sl} (ys : List α) (g : α → D) (f : α → Option D) (hi : evalI Γ it sl = .ok (ys.map g) sl0) (hd : own.all (isData sl0) = true) (hb : own.all (fun i => decide (i < sl0.length)) = true) (hl : ys.length ≤ sizeLine)
    (hx : ∀ y ∈ ys, ∃ sl', turnW Γ elt t cond (g y) (wipeSl sl0 own) = .ok (f y) sl' ∧ wipeSl sl' own = wipeSl sl0 own) : evalE Γ (.comp elt t it cond own) sl = .ok (.list (ys.filterMap f)) sl0 := by
  rw [evE_comp_eq, hi, R.bind_ok, if_pos hd]
  obtain ⟨zs, sl', e, e2, e3⟩ := compLoop_inv (turn := fun x sl => turnW Γ elt t cond x (wipeSl sl own)) (xs := ys.map g) (fun i acc sl => wipeSl sl own = wipeSl sl0 own ∧ acc = (ys.take i).filterMap f) (fun i x acc sl hxi ⟨hw, ha⟩ _ => by
    rw [List.getElem?_map] at hxi
    obtain ⟨y, hy, rfl⟩ := Option.map_eq_some_iff.mp hxi
    obtain ⟨sl', e, e2⟩ := hx y (List.mem_of_getElem? hy)
    refine ⟨f y, sl', by rw [hw]; exact e, e2, ?_⟩
    rw [List.take_add_one, hy, ha, List.filterMap_append]
    cases h : f y <;> simp [h]) (by rw [List.length_map]; exact hl) (sl := sl0) ⟨rfl, rfl⟩
  rw [e, R.bind_ok, restore_same e2 hb, e3, List.length_map, List.take_length]
theorem evE_compM {α : Type} {Γ : Nat → List X → CR} {elt : L} {t : T} {it : I} {cond : Ol} {own : List Nat} {sl sl0 : Sl} (ys : List α) (g : α → D) (f : α → D) (hi : evalI Γ it sl = .ok (ys.map g) sl0) (hd : own.all (isData sl0) = true) (hb : own.all (fun i => decide (i < sl0.length)) = true) (hl : ys.length ≤ sizeLine)
    (hx : ∀ y ∈ ys, ∃ sl', turnW Γ elt t cond (g y) (wipeSl sl0 own) = .ok (some (f y)) sl' ∧ wipeSl sl' own = wipeSl sl0 own) : evalE Γ (.comp elt t it cond own) sl = .ok (.list (ys.map f)) sl0 := by
  rw [evE_compT ys g (fun y => some (f y)) hi hd hb hl hx]
  simp
@[simp] theorem boolsOf_map : ∀ bs : List Bool, boolsOf (bs.map .bool) = some bs
  | [] => rfl
  | b :: bs => by show (boolsOf (bs.map .bool)).map _ = _; rw [boolsOf_map bs]; rfl
@[simp] theorem intsOf_map : ∀ bs : List Int, intsOf (bs.map .int) = some bs
  | [] => rfl
  | b :: bs => by show (intsOf (bs.map .int)).map _ = _; rw [intsOf_map bs]; rfl
@[simp] theorem strsOf_map : ∀ bs : List Str, strsOf (bs.map .str) = some bs
  | [] => rfl
  | b :: bs => by show (strsOf (bs.map .str)).map _ = _; rw [strsOf_map bs]; rfl
theorem bAll_map {α : Type} (ys : List α) (p : α → Bool) : bAll [.list (ys.map fun y => .bool (p y))] = some (.bool (ys.all p)) := by
  have e : (ys.map fun y => PyData.bool (p y)) = (ys.map p).map .bool := by rw [List.map_map]; rfl
  rw [e]
  show (boolsOf _).map _ = _
  rw [boolsOf_map]
  simp [List.all_map]
@[simp] theorem sEqB_str (a b : Str) : sEqB (.str a) (.str b) = some (decide (a = b)) := by
  unfold sEqB
  have : (PyData.eqv (.str a) (.str b)) = decide (a = b) := by rw [PyData.eqv]; simp [BEq.beq]
  rw [this]
  simp [PyData.plain, PyData.depth, depthLine]
@[simp] theorem sEqB_int (a b : Int) : sEqB (.int a) (.int b) = some (decide (a = b)) := by
  unfold sEqB
  have : (PyData.eqv (.int a) (.int b)) = decide (a = b) := by rw [PyData.eqv]; simp [BEq.beq]
  rw [this]
  simp [PyData.plain, PyData.depth, depthLine]
@[simp] theorem sEqB_bool (a b : Bool) : sEqB (.bool a) (.bool b) = some (decide (a = b)) := by
  unfold sEqB
  have : (PyData.eqv (.bool a) (.bool b)) = decide (a = b) := by cases a <;> cases b <;> rfl
  rw [this]
  simp [PyData.plain, PyData.depth, depthLine]
@[simp] theorem sem2_eq (a b : D) : sem2 .eq a b = oB (sEqB a b) := rfl
@[simp] theorem sem2_ne (a b : D) : sem2 .ne a b = oB ((sEqB a b).map not) := rfl
@[simp] theorem sem2_lt (a b : D) : sem2 .lt a b = oB (sLtB a b) := rfl
@[simp] theorem sem2_le (a b : D) : sem2 .le a b = oB (sLeB a b) := rfl
@[simp] theorem sem2_gt (a b : D) : sem2 .gt a b = oB (sLtB b a) := rfl
@[simp] theorem sem2_ge (a b : D) : sem2 .ge a b = oB (sLeB b a) := rfl
@[simp] theorem sem2_add (a b : D) : sem2 .add a b = sAdd a b := rfl
@[simp] theorem sem2_sub (a b : D) : sem2 .sub a b = sSub a b := rfl
@[simp] theorem sem2_mul (a b : D) : sem2 .mul a b = sMul a b := rfl
@[simp] theorem sem2_fdiv (a b : D) : sem2 .fdiv a b = sFdiv a b := rfl
@[simp] theorem sem2_mod (a b : D) : sem2 .mod a b = sMod a b := rfl
@[simp] theorem sem2_in (a b : D) : sem2 .in_ a b = oB (sInB a b) := rfl
@[simp] theorem sem2_nin (a b : D) : sem2 .nin a b = oB ((sInB a b).map not) := rfl
@[simp] theorem sLeB_int (i j : Int) : sLeB (.int i) (.int j) = some (decide (i ≤ j)) := rfl
@[simp] theorem sLtB_int (i j : Int) : sLtB (.int i) (.int j) = some (decide (i < j)) := rfl
@[simp] theorem sLeB_one (i j : Nat) : sLeB (.str ⟨#[i]⟩) (.str ⟨#[j]⟩) = some (decide (i ≤ j)) := by
  show some (decide ([i] ≤ [j])) = _
  congr 1
  rw [decide_eq_decide]
  simp [List.cons_le_cons_iff]
  omega
@[simp] theorem bLen_str (x : Str) : bLen [.str x] = some (.int x.length) := rfl
@[simp] theorem bLen_tuple (xs : List D) : bLen [.tuple xs] = some (.int xs.length) := rfl
@[simp] theorem bLen_list (xs : List D) : bLen [.list xs] = some (.int xs.length) := rfl
@[simp] theorem truth_bool (b : Bool) : truth (.bool b) = b := rfl
@[simp] theorem items_list (xs : List D) : items (.list xs) = some xs := rfl
@[simp] theorem items_tuple (xs : List D) : items (.tuple xs) = some xs := rfl
@[simp] theorem items_str (x : Str) : items (.str x) = some (signs x) := rfl
/-- a def of data alone -/
theorem runFn_ret {Γ : Nat → List X → CR} {fn : Fn} {xs : List X} {d : D} {sl : Sl} (h1 : argsFit fn.ins xs = true) (h2 : evalSs Γ fn.body (startSl fn xs) = .ret d sl) (h3 : fn.ins.all (!·) = true) : runFn Γ fn xs = .ok d [] := by
  refine runFn_data h1 h2 ?_
  have : ∀ (ins : List Bool) (i : Nat), ins.all (!·) = true → outsOf sl i ins = some [] := by
    intro ins
    induction ins with
    | nil => intro i _; rfl
    | cons b r ih =>
      intro i h
      cases b with
      | true => simp at h
      | false => exact ih (i + 1) (by simpa using h)
  exact this _ 0 h3
theorem runFn_retE {Γ : Nat → List X → CR} {fn : Fn} {xs : List X} {d : D} (h1 : argsFit fn.ins xs = true) (h3 : fn.ins.all (!·) = true) (h2 : ∃ sl, evalSs Γ fn.body (startSl fn xs) = .ret d sl) : runFn Γ fn xs = .ok d [] := by
  obtain ⟨sl, h2⟩ := h2
  exact runFn_ret h1 h2 h3
theorem sizeLine_ge : 1000000 ≤ sizeLine := by decide
@[simp] theorem cut_tail {α : Type} (x : α) (r : List α) : cut (x :: r) (some 1) none = r := by
  unfold cut clip
  simp
theorem zip_signs (ss : Str) (r : List D) : zipD (signs ss) r = (List.zip ss.cps.toList r).map fun p => .tuple [.str ⟨#[p.1]⟩, p.2] := by
  unfold zipD signs
  generalize ss.cps.toList = l
  induction l generalizing r with
  | nil => rfl
  | cons a l ih =>
    cases r with
    | nil => rfl
    | cons x r => simp only [List.map_cons, List.zipWith_cons_cons, List.zip_cons_cons, ih]
@[simp] theorem atI_0 {α : Type} (x : α) (r : List α) : atI (x :: r) 0 = some x := by
  unfold atI place
  simp
@[simp] theorem sIdx_tup (xs : List D) (i : Int) : sIdx (.tuple xs) (.int i) = atI xs i := rfl
@[simp] theorem sIdx_lst (xs : List D) (i : Int) : sIdx (.list xs) (.int i) = atI xs i := rfl
@[simp] theorem evE_gin (Γ : Nat → List X → CR) (sl : Sl) (neg : Bool) (a : L) : evalE Γ (.gin neg a) sl = (evalE Γ a sl).bnd fun x sl => match x with
    | .str k => .ok (.bool (if neg then !(signsTab.any fun p => p.1 == k) else signsTab.any fun p => p.1 == k)) sl
    | _ => .stuck := by simp only [evalE] <;> rfl
@[simp] theorem evE_gget (Γ : Nat → List X → CR) (sl : Sl) (a : L) : evalE Γ (.gget a) sl = (evalE Γ a sl).bnd fun x sl => match x with
    | .str k => R.of ((signsTab.lookup k).map .str) sl
    | _ => .stuck := by simp only [evalE] <;> rfl
theorem lookup_any' (k : Str) : ∀ l : List (Str × Str), (l.any fun p => p.1 == k) = (l.lookup k).isSome
  | [] => rfl
  | (a, b) :: r => by
    rw [List.lookup_cons, List.any_cons, lookup_any' k r]
    by_cases e : k = a
    · subst e; simp
    · have e1 : (k == a) = false := by simpa using e
      have e2 : (a == k) = false := by simpa using fun z => e z.symm
      rw [e1]; simp [e2]
@[simp] theorem sAdd_int (i j : Int) : sAdd (.int i) (.int j) = some (.int (i + j)) := rfl
@[simp] theorem sSub_int (i j : Int) : sSub (.int i) (.int j) = some (.int (i - j)) := rfl
theorem sAdd_lst {xs ys : List D} (h : xs.length + ys.length ≤ sizeLine) : sAdd (.list xs) (.list ys) = some (.list (xs ++ ys)) := if_pos h
theorem sAdd_tup {xs ys : List D} (h : xs.length + ys.length ≤ sizeLine) : sAdd (.tuple xs) (.tuple ys) = some (.tuple (xs ++ ys)) := if_pos h
theorem sAdd_str {x y : Str} (h : x.length + y.length ≤ sizeLine) : sAdd (.str x) (.str y) = some (.str (x ++ y)) := if_pos h
@[simp] theorem atI_1 {α : Type} (x y : α) (r : List α) : atI (x :: y :: r) 1 = some y := by
  unfold atI place
  have : (1 : Int) < ((x :: y :: r).length : Int) := by simp; omega
  rw [if_pos (by decide), if_pos this]
  rfl
@[simp] theorem atI_2 {α : Type} (x y z : α) (r : List α) : atI (x :: y :: z :: r) 2 = some z := by
  unfold atI place
  have : (2 : Int) < ((x :: y :: z :: r).length : Int) := by simp; omega
  rw [if_pos (by decide), if_pos this]
  rfl
@[simp] theorem isNone_none : isNone .none = true := rfl
theorem compLoop_acc {α : Type} {turn : D → Sl → R (Option D)} {g : α → D} {f : α → Option D} (I : Sl → Prop) : ∀ (zs : List α), (∀ z ∈ zs, ∀ sl, I sl → ∃ sl', turn (g z) sl = .ok (f z) sl' ∧ I sl') → ∀ (acc : List D) (sl : Sl), I sl → acc.length + zs.length ≤ sizeLine →
    ∃ sl', compLoop turn (zs.map g) acc sl = .ok (acc ++ zs.filterMap f) sl' ∧ I sl'
  | [], _, acc, sl, hI, _ => ⟨sl, by simp [compLoop], hI⟩
  | z :: zs, h, acc, sl, hI, hl => by
    obtain ⟨sl1, e1, i1⟩ := h z List.mem_cons_self sl hI
    rw [List.length_cons] at hl
    rw [List.map_cons]
    unfold compLoop
    rw [e1]
    cases hf : f z with
    | none =>
      obtain ⟨sl2, e2, i2⟩ := compLoop_acc I zs (fun y hy => h y (List.mem_cons_of_mem _ hy)) acc sl1 i1 (by omega)
      exact ⟨sl2, by rw [List.filterMap_cons, hf]; exact e2, i2⟩
    | some y =>
      obtain ⟨sl2, e2, i2⟩ := compLoop_acc I zs (fun y hy => h y (List.mem_cons_of_mem _ hy)) (acc ++ [y]) sl1 i1 (by simp; omega)
      refine ⟨sl2, ?_, i2⟩
      dsimp only
      rw [if_pos (by omega), e2, List.filterMap_cons, hf]
      simp
theorem compOut_acc {α : Type} {turn : D → List D → Sl → R (List D)} {g : α → D} {f : α → List D} {w : α → Nat} (I : Sl → Prop) : ∀ (zs : List α), (∀ z ∈ zs, ∀ acc sl, I sl → acc.length + w z ≤ sizeLine → ∃ sl', turn (g z) acc sl = .ok (acc ++ f z) sl' ∧ I sl') → (∀ z ∈ zs, (f z).length ≤ w z) → ∀ (acc : List D) (sl : Sl), I sl → acc.length + (zs.map w).sum ≤ sizeLine →
    ∃ sl', compOut turn (zs.map g) acc sl = .ok (acc ++ zs.flatMap f) sl' ∧ I sl'
  | [], _, _, acc, sl, hI, _ => ⟨sl, by simp [compOut], hI⟩
  | z :: zs, h, hw, acc, sl, hI, hl => by
    rw [List.map_cons, List.sum_cons] at hl
    obtain ⟨sl1, e1, i1⟩ := h z List.mem_cons_self acc sl hI (by omega)
    have w1 := hw z List.mem_cons_self
    obtain ⟨sl2, e2, i2⟩ := compOut_acc I zs (fun y hy => h y (List.mem_cons_of_mem _ hy)) (fun y hy => hw y (List.mem_cons_of_mem _ hy)) (acc ++ f z) sl1 i1 (by simp; omega)
    refine ⟨sl2, ?_, i2⟩
    rw [List.map_cons]
    unfold compOut
    rw [e1, List.flatMap_cons, ← List.append_assoc]
    exact e2
theorem wlen (s : Sl) : ∀ own : List Nat, (wipeSl s own).length = s.length
  | [] => rfl
  | v :: vs => by show ((wipeSl s vs).set v none).length = _; rw [List.length_set, wlen s vs]
theorem wget (sl : Sl) (own : List Nat) (j : Nat) : (wipeSl sl own)[j]? = if j ∈ own then (if j < sl.length then some none else none) else sl[j]? := by
  induction own with
  | nil => simp [wipeSl]
  | cons v vs ih =>
    show ((wipeSl sl vs).set v none)[j]? = _
    by_cases hj : v = j
    · subst hj
      by_cases hl : v < sl.length
      · rw [List.getElem?_set_self (by rw [wlen]; exact hl)]; simp [hl]
      · rw [List.getElem?_eq_none (by rw [List.length_set, wlen]; omega)]; simp [hl]
    · rw [List.getElem?_set_ne hj, ih]
      have e : ¬ j = v := fun z => hj z.symm
      simp [List.mem_cons, e]
theorem wover {sl : Sl} {own own1 : List Nat} (h : ∀ i ∈ own1, i ∈ own) : wipeSl (wipeSl sl own1) own = wipeSl sl own := by
  refine List.ext_getElem? fun j => ?_
  rw [wget, wget, wget, wlen]
  by_cases h1 : j ∈ own
  · simp [h1]
  · have h2 : j ∉ own1 := fun z => h1 (h j z)
    simp [h1, h2]
theorem evE_comp2_eq {Γ : Nat → List X → CR} {elt : L} {t t1 : T} {it it1 : I} {cond : Ol} {own own1 : List Nat} {sl : Sl} :
    evalE Γ (.comp2 elt t it t1 it1 cond own own1) sl = (evalI Γ it sl).bind fun xs sl0 => if own.all (isData sl0) then (compOut (fun x acc sl => match assignT t x (wipeSl sl own) with
      | none => .stuck
      | some sl => (evalI Γ it1 sl).bind fun ys sl => compLoop (fun y sl => turnW Γ elt t1 cond y (wipeSl sl own1)) ys acc sl) xs [] sl0).bind fun ys sl => .ok (.list ys) (restoreSl sl0 sl own) else .stuck := by
  simp only [evalE]
  rfl
theorem evE_comp2T {α β : Type} {Γ : Nat → List X → CR} {elt : L} {t t1 : T} {it it1 : I} {cond : Ol} {own own1 : List Nat} {sl sl0 : Sl} (ys : List α) (g : α → D) (zs : α → List β) (g1 : β → D) (f : α → β → Option D) (hi : evalI Γ it sl = .ok (ys.map g) sl0) (hd : own.all (isData sl0) = true) (hb : own.all (fun i => decide (i < sl0.length)) = true) (hs : own1.all (fun i => decide (i ∈ own)) = true)
    (hl : (ys.map fun y => (zs y).length).sum ≤ sizeLine)
    (hx : ∀ y ∈ ys, ∃ slA slB, assignT t (g y) (wipeSl sl0 own) = some slA ∧ evalI Γ it1 slA = .ok ((zs y).map g1) slB ∧ wipeSl slB own = wipeSl sl0 own ∧ ∀ z ∈ zs y, ∃ sl', turnW Γ elt t1 cond (g1 z) (wipeSl slB own1) = .ok (f y z) sl' ∧ wipeSl sl' own1 = wipeSl slB own1) :
    evalE Γ (.comp2 elt t it t1 it1 cond own own1) sl = .ok (.list (ys.flatMap fun y => (zs y).filterMap (f y))) sl0 := by
  have sub : ∀ i ∈ own1, i ∈ own := fun i hi => of_decide_eq_true (List.all_eq_true.mp hs i hi)
  rw [evE_comp2_eq, hi, R.bind_ok, if_pos hd]
  obtain ⟨sl', e, i'⟩ := compOut_acc (turn := fun x acc sl => match assignT t x (wipeSl sl own) with
      | none => .stuck
      | some sl => (evalI Γ it1 sl).bind fun ys sl => compLoop (fun y sl => turnW Γ elt t1 cond y (wipeSl sl own1)) ys acc sl) (g := g) (f := fun y => (zs y).filterMap (f y)) (w := fun y => (zs y).length) (fun sl => wipeSl sl own = wipeSl sl0 own) ys (fun y hy acc slx hI hacc => by
    obtain ⟨slA, slB, h1, h2, h3, h4⟩ := hx y hy
    obtain ⟨slC, e1, e2⟩ := compLoop_acc (turn := fun y sl => turnW Γ elt t1 cond y (wipeSl sl own1)) (g := g1) (f := f y) (fun s => wipeSl s own1 = wipeSl slB own1) (zs y) (fun z hz s hs => by
      obtain ⟨s', q1, q2⟩ := h4 z hz
      exact ⟨s', by rw [hs]; exact q1, q2⟩) acc slB rfl hacc
    refine ⟨slC, ?_, ?_⟩
    · rw [hI, h1]
      show ((evalI Γ it1 slA).bind _) = _
      rw [h2, R.bind_ok, e1]
    · rw [← wover (sl := slC) sub, e2, wover sub, h3]) (fun y _ => List.length_filterMap_le _ _) [] sl0 rfl (by simpa using hl)
  rw [e, R.bind_ok, restore_same i' hb]
  simp
def fin (ins : List Bool) : F → CR
  | .ret d sl => match outsOf sl 0 ins with
    | some outs => .ok d outs
    | none => .stuck
  | .nx sl => match outsOf sl 0 ins with
    | some outs => .ok .none outs
    | none => .stuck
  | .exc c _ => if ins.all (!·) then .exc c else .stuck
  | _ => .stuck
theorem runFn_fin {Γ : Nat → List X → CR} {fn : Fn} {xs : List X} (h : argsFit fn.ins xs = true) : runFn Γ fn xs = fin fn.ins (evalSs Γ fn.body (startSl fn xs)) := by
  unfold runFn
  rw [if_pos h]
  rfl
@[simp] theorem outsOf_nil (sl : Sl) (i : Nat) : outsOf sl i [] = some [] := rfl
@[simp] theorem outsOf_f (sl : Sl) (i : Nat) (r : List Bool) : outsOf sl i (false :: r) = outsOf sl (i + 1) r := rfl
theorem fin_ret (ins : List Bool) (d : D) (sl : Sl) : fin ins (.ret d sl) = match outsOf sl 0 ins with
    | some outs => .ok d outs
    | none => .stuck := rfl
@[simp] theorem fin_1 (d : D) (sl : Sl) : fin [false] (.ret d sl) = .ok d [] := rfl
@[simp] theorem fin_2 (d : D) (sl : Sl) : fin [false, false] (.ret d sl) = .ok d [] := rfl
@[simp] theorem fin_3 (d : D) (sl : Sl) : fin [false, false, false] (.ret d sl) = .ok d [] := rfl
@[simp] theorem fin_4 (d : D) (sl : Sl) : fin [false, false, false, false] (.ret d sl) = .ok d [] := rfl
@[simp] theorem forB_nm (Γ : Nat → List X → CR) (i : Nat) (body : Ss) (x : D) (sl : Sl) : forB Γ (.nm i) body x sl = evalSs Γ body (sl.set i (some (.d x))) := rfl
@[simp] theorem forB_tp (Γ : Nat → List X → CR) (is : List Nat) (body : Ss) (xs : List D) (sl : Sl) : forB Γ (.tp is) body (.tuple xs) sl = match setAll sl is xs with
  | some sl => evalSs Γ body sl
  | none => .stuck := rfl
/-- a loop that may end the def -/
theorem for_find {ins : List Bool} {body : D → Sl → F} {xs : List D} {sl : Sl} {K : Sl → F} {r : CR} (I : Sl → Prop) (bad : D → Option D)
    (turn : ∀ x ∈ xs, ∀ sl, I sl → (∃ d sl', bad x = some d ∧ body x sl = .ret d sl' ∧ fin ins (.ret d sl') = .ok d []) ∨ (bad x = none ∧ ∃ sl', body x sl = .nx sl' ∧ I sl')) (h0 : I sl)
    (hr : ∀ d, xs.findSome? bad = some d → r = .ok d []) (hn : xs.findSome? bad = none → ∀ sl', I sl' → fin ins (K sl') = r) : fin ins ((forLoop body xs sl).sq K) = r := by
  induction xs generalizing sl with
  | nil => exact hn rfl sl h0
  | cons x xs ih =>
    rcases turn x List.mem_cons_self sl h0 with ⟨d, sl', e1, e2, e3⟩ | ⟨e1, sl', e2, i2⟩
    · rw [hr d (by rw [List.findSome?_cons, e1])]
      unfold forLoop
      rw [e2]
      exact e3
    · have e : xs.findSome? bad = (x :: xs).findSome? bad := by rw [List.findSome?_cons, e1]
      unfold forLoop
      rw [e2]
      exact ih (fun y hy => turn y (List.mem_cons_of_mem _ hy)) i2 (fun d hd => hr d (by rw [← e]; exact hd)) fun hne => hn (by rw [← e]; exact hne)
/-- a loop that runs through -/
theorem for_inv {ins : List Bool} {body : D → Sl → F} {xs : List D} {sl : Sl} {K : Sl → F} {r : CR} (I : Nat → Sl → Prop) (turn : ∀ i x sl, xs[i]? = some x → I i sl → ∃ sl', body x sl = .nx sl' ∧ I (i + 1) sl') (h0 : I 0 sl) (hn : ∀ sl', I xs.length sl' → fin ins (K sl') = r) : fin ins ((forLoop body xs sl).sq K) = r := by
  obtain ⟨sl', e, i⟩ := forLoop_inv I turn h0
  rw [e]
  exact hn sl' i
end Rf
end
section
set_option linter.all false
set_option maxRecDepth 100000
namespace Rf
open PySem
section
variable {P : Nat → Option Fn}
/-- a lower-case letter -/
def lowB (c : Nat) : Bool := decide (97 ≤ c) && decide (c ≤ 122)
def wordB (x : Str) : Bool := decide (1 ≤ x.length) && decide (x.length ≤ 9) && x.cps.toList.all lowB
def wholeD : D → Bool
  | .int _ => true
  | _ => false
def wordD : D → Bool
  | .str x => wordB x
  | _ => false
theorem run_is_whole [At P 0 F_is_whole] (n : Nat) (d : D) (hd : ∀ kvs, d ≠ .dict kvs) : run P (n + 1) 0 [.d d] = .ok (.bool (wholeD d)) [] := by
  rw [run_at F_is_whole]
  cases d <;> first
    | exact absurd rfl (hd _)
    | simp [runFn, F_is_whole, startSl, argsFit, endFn, outsOf, semB, bIsi, isTy, wholeD]
theorem comp_low (Γ : Nat → List X → CR) (x : Str) (hx : x.length ≤ 1000000) : evalE Γ (.comp (.chain .le .le (.const (.str ⟨#[97]⟩)) (.var 1) (.const (.str ⟨#[122]⟩))) (.nm 1) (.seq (.var 0)) .none [1]) [some (.d (.str x)), none] = .ok (.list (x.cps.toList.map fun c => .bool (lowB c))) [some (.d (.str x)), none] := by
  refine evE_compM x.cps.toList (fun c => .str ⟨#[c]⟩) _ (by simp; rfl) (by simp) (by simp) ?_ fun c _ => ?_
  · have := sizeLine_ge
    rw [Array.length_toList]
    exact Nat.le_trans hx this
  · by_cases h : 97 ≤ c
    · exact ⟨_, by simp [turnW, h, lowB]; rfl, by simp⟩
    · exact ⟨_, by simp [turnW, h, lowB]; rfl, by simp⟩
theorem run_is_word [At P 1 F_is_word] (n : Nat) (d : D) (hd : ∀ kvs, d ≠ .dict kvs) : run P (n + 1) 1 [.d d] = .ok (.bool (wordD d)) [] := by
  rw [run_at F_is_word]
  cases d with
  | dict kvs => exact absurd rfl (hd _)
  | str x =>
    have e : [some (X.d (.str x)), none] = startSl F_is_word [.d (.str x)] := rfl
    refine runFn_ret rfl (sl := [some (.d (.str x)), none]) ?_ rfl
    by_cases h1 : (1 : Int) ≤ (x.length : Int)
    · by_cases h2 : (x.length : Int) ≤ 9
      · have := comp_low (run P n) x (by omega)
        have g1 : 1 ≤ x.length := by omega
        have g2 : x.length ≤ 9 := by omega
        simp [F_is_word, startSl, semB, bIsi, isTy, this, bAll_map, wordD, wordB, h1, h2, g1, g2]
      · have g2 : ¬ x.length ≤ 9 := by omega
        simp [F_is_word, startSl, semB, bIsi, isTy, wordD, wordB, h1, h2, g2]
    · have g1 : ¬ 1 ≤ x.length := by omega
      simp [F_is_word, startSl, semB, bIsi, isTy, wordD, wordB, h1, g1]
  | _ => simp [runFn, F_is_word, startSl, argsFit, endFn, outsOf, semB, bIsi, isTy, wordD]
theorem plain_nd {d : D} (h : d.plain = true) : ∀ kvs, d ≠ .dict kvs := fun kvs e => by subst e; cases h
theorem plain_tup {xs : List D} (h : PyData.plain (.tuple xs) = true) : ∀ x ∈ xs, x.plain = true := fun x hx => PySem.W.plain_mem (show PyData.plainAll xs = true from by rw [PyData.plain] at h; exact h) hx
theorem plain_lst {xs : List D} (h : PyData.plain (.list xs) = true) : ∀ x ∈ xs, x.plain = true := fun x hx => PySem.W.plain_mem (show PyData.plainAll xs = true from by rw [PyData.plain] at h; exact h) hx
def strOf : D → Str
  | .str x => x
  | _ => Str.empty
theorem strs_of_words : ∀ {xs : List D}, xs.all wordD = true → strsOf xs = some (xs.map strOf)
  | [], _ => rfl
  | x :: xs, h => by
    rw [List.all_cons, Bool.and_eq_true] at h
    cases x with
    | str y => show (strsOf xs).map _ = _; rw [strs_of_words h.2]; rfl
    | _ => cases h.1
def numsD : D → Bool
  | .tuple xs => decide (1 ≤ xs.length) && decide (xs.length ≤ 20) && xs.all wordD && decide (nDiff (xs.map strOf) = xs.length)
  | _ => false
/-- a comprehension that asks a def of each item, v being its name -/
theorem run_are_numerals [At P 1 F_is_word] [At P 2 F_are_numerals] (n : Nat) (d : D) (hd : d.plain = true) : run P (n + 2) 2 [.d d] = .ok (.bool (numsD d)) [] := by
  rw [run_at F_are_numerals]
  cases d with
  | dict kvs => cases hd
  | tuple xs =>
    refine runFn_ret rfl (sl := [some (.d (.tuple xs)), none]) ?_ rfl
    by_cases h1 : (1 : Int) ≤ (xs.length : Int)
    · by_cases h2 : (xs.length : Int) ≤ 20
      · have g1 : 1 ≤ xs.length := by omega
        have g2 : xs.length ≤ 20 := by omega
        have hc : evalE (run P (n + 1)) (.comp (.call 1 (.cons (.val (.var 1)) .nil)) (.nm 1) (.seq (.var 0)) .none [1]) [some (.d (.tuple xs)), none] = .ok (.list (xs.map fun x => .bool (wordD x))) [some (.d (.tuple xs)), none] := by
          refine evE_compM xs id _ (by simp) (by simp) (by simp) (by have := sizeLine_ge; omega) fun x hx => ⟨_, by simp [turnW, run_is_word n x (plain_nd (plain_tup hd x hx))]; rfl, by simp⟩
        by_cases h3 : xs.all wordD = true
        · have e3 := strs_of_words h3
          have lt : xs.length < 4000 := by omega
          simp [F_are_numerals, startSl, semB, bIsi, isTy, hc, bAll_map, numsD, h1, h2, g1, g2, h3, bLenset, e3, lt]
          constructor <;> intro h <;> omega
        · simp only [Bool.not_eq_true] at h3
          simp [F_are_numerals, startSl, semB, bIsi, isTy, hc, bAll_map, numsD, h1, h2, g1, g2, h3]
      · have g2 : ¬ xs.length ≤ 20 := by omega
        simp [F_are_numerals, startSl, semB, bIsi, isTy, numsD, h1, h2, g2]
    · have g1 : ¬ 1 ≤ xs.length := by omega
      simp [F_are_numerals, startSl, semB, bIsi, isTy, numsD, h1, g1]
  | _ => simp [runFn, F_are_numerals, startSl, argsFit, endFn, outsOf, semB, bIsi, isTy, numsD]
def partB (many : Nat) (s : Nat) (d : D) : Bool := if s = 116 then (match d with
    | .int i => decide (0 ≤ i) && decide (i < many)
    | _ => false) else wordD d && (decide (s = 119) || (match d with
    | .str x => decide (x.length = 1)
    | _ => false))
theorem run_is_part [At P 0 F_is_whole] [At P 1 F_is_word] [At P 3 F_is_part] (n many s : Nat) (d : D) (hd : ∀ kvs, d ≠ .dict kvs) : run P (n + 2) 3 [.d (.str ⟨#[s]⟩), .d d, .d (.int many)] = .ok (.bool (partB many s d)) [] := by
  rw [run_at F_is_part]
  have w0 := run_is_whole (P := P) n d hd
  have w1 := run_is_word (P := P) n d hd
  refine runFn_ret rfl (sl := [some (.d (.str ⟨#[s]⟩)), some (.d d), some (.d (.int many))]) ?_ rfl
  by_cases hs : s = 116
  · subst hs
    cases d <;> first
      | exact absurd rfl (hd _)
      | (simp [F_is_part, startSl, partB, w0, wholeD]; done)
      | skip
    rename_i i
    by_cases h0 : 0 ≤ i
    · simp [F_is_part, startSl, partB, w0, wholeD, h0]
    · simp [F_is_part, startSl, partB, w0, wholeD, h0]
  · by_cases hw : wordD d = true
    · cases d <;> first
        | (cases hw; done)
        | skip
      rename_i x
      by_cases h9 : s = 119
      · simp [F_is_part, startSl, partB, w1, hw, h9]
      · simp [F_is_part, startSl, partB, w1, hw, hs, h9, semB]
        by_cases h1 : x.length = 1
        · simp [h1]
        · have : ¬ (x.length : Int) = 1 := by omega
          simp [h1, this]
    · simp only [Bool.not_eq_true] at hw
      simp [F_is_part, startSl, partB, w1, hw, hs]
def moreS : Str := ⟨#[109, 111, 114, 101]⟩
def sayS : Str := ⟨#[115, 97, 121]⟩
def partsB (many : Nat) (ss : Str) (r : List D) : Bool := (List.zip ss.cps.toList r).all fun p => partB many p.1 p.2
def holeB (many : Nat) : D → Bool
  | .tuple (.str k :: r) => match signsTab.lookup k with
    | some ss => decide (r.length = ss.length) && partsB many ss r && (!decide (k = moreS) || !decide (strOf (r.getD 0 .none) = strOf (r.getD 1 .none)))
    | none => false
  | _ => false
theorem sign_few : ∀ {k ss : Str}, signsTab.lookup k = some ss → ss.length ≤ 3 := by
  intro k ss h
  have hall : ∀ q ∈ signsTab, q.2.length ≤ 3 := by decide +kernel
  have : ∀ {l : List (Str × Str)}, (∀ q ∈ l, q.2.length ≤ 3) → l.lookup k = some ss → ss.length ≤ 3 := by
    intro l
    induction l with
    | nil => intro _ h; cases h
    | cons p l ih =>
      intro hl h
      obtain ⟨a, b⟩ := p
      rw [List.lookup_cons] at h
      split at h
      · obtain rfl := Option.some.inj h; exact hl (a, b) List.mem_cons_self
      · exact ih (fun q hq => hl q (List.mem_cons_of_mem _ hq)) h
  exact this hall h
theorem run_is_hole [At P 0 F_is_whole] [At P 1 F_is_word] [At P 3 F_is_part] [At P 4 F_is_hole] (n many : Nat) (d : D) (hd : d.plain = true) : run P (n + 3) 4 [.d d, .d (.int many)] = .ok (.bool (holeB many d)) [] := by
  rw [run_at F_is_hole]
  cases d with
  | dict kvs => cases hd
  | tuple xs =>
    cases xs with
    | nil =>
      refine runFn_ret rfl (sl := [some (.d (.tuple [])), some (.d (.int many)), none, none, none]) ?_ rfl
      have h0 : sEqB (.tuple []) (.tuple []) = some true := by simp [sEqB, PyData.plain, PyData.plainAll, PyData.depth, PyData.depthAll, PyData.eqv, PyData.eqvAll, depthLine]
      simp [F_is_hole, startSl, semB, bIsi, isTy, holeB, h0]
    | cons x r =>
      have hp := plain_tup hd
      have hxr : sEqB (.tuple (x :: r)) (.tuple []) = some false := by
        unfold sEqB
        have e1 : (PyData.tuple ([] : List D)).plain = true := rfl
        have e2 : (PyData.tuple ([] : List D)).depth ≤ 100 := by decide
        have e3 : min (PyData.tuple (x :: r)).depth (PyData.tuple ([] : List D)).depth ≤ depthLine := by unfold depthLine; omega
        rw [if_pos (by rw [hd, e1]; simp [e3])]
        rfl
      have mx := fun {sl : Sl} (e : evalSs (run P (n + 2)) F_is_hole.body (startSl F_is_hole [.d (.tuple (x :: r)), .d (.int many)]) = .ret (.bool (holeB many (.tuple (x :: r)))) sl) => runFn_ret (fn := F_is_hole) rfl e rfl
      cases x with
      | dict kvs => exact absurd rfl (plain_nd (hp _ List.mem_cons_self) kvs)
      | str k =>
        cases hl : signsTab.lookup k with
        | none =>
          refine mx (sl := [some (.d (.tuple (.str k :: r))), some (.d (.int many)), none, none, none]) ?_
          simp [F_is_hole, startSl, semB, bIsi, isTy, holeB, hxr, lookup_any', hl]
        | some ss =>
          have few := sign_few hl
          by_cases hlen : r.length = ss.length
          · have hc : evalE (run P (n + 2)) (.comp (.call 3 (.cons (.val (.var 3)) (.cons (.val (.var 4)) (.cons (.val (.var 1)) .nil)))) (.tp [3, 4]) (.zip (.var 2) (.slice (.val (.var 0)) (.some (.const (.int 1))) .none)) .none [3, 4]) [some (.d (.tuple (.str k :: r))), some (.d (.int many)), some (.d (.str ss)), none, none] =
                .ok (.list ((List.zip ss.cps.toList r).map fun p => .bool (partB many p.1 p.2))) [some (.d (.tuple (.str k :: r))), some (.d (.int many)), some (.d (.str ss)), none, none] := by
              refine evE_compM (List.zip ss.cps.toList r) (fun p => .tuple [.str ⟨#[p.1]⟩, p.2]) (fun p => .bool (partB many p.1 p.2)) (by simp [sCut, zip_signs]) (by simp) (by simp) (by have := sizeLine_ge; rw [List.length_zip]; have : ss.cps.toList.length = ss.length := Array.length_toList; omega) fun p hpz =>
                ⟨_, by simp [turnW, run_is_part n many p.1 p.2 (plain_nd (hp p.2 (List.mem_cons_of_mem _ (List.of_mem_zip hpz).2)))]; rfl, by simp⟩
            refine runFn_ret rfl (sl := [some (.d (.tuple (.str k :: r))), some (.d (.int many)), some (.d (.str ss)), none, none]) ?_ rfl
            by_cases hparts : partsB many ss r = true
            · by_cases hm : k = moreS
              · have hm' : k = ⟨#[109, 111, 114, 101]⟩ := hm
                subst hm'
                have e1 : ss = ⟨#[115, 115, 116]⟩ := by
                  have : signsTab.lookup moreS = some ⟨#[115, 115, 116]⟩ := by decide +kernel
                  unfold moreS at this
                  rw [this] at hl
                  exact (Option.some.inj hl).symm
                subst e1
                obtain ⟨a, b, t, rfl⟩ : ∃ a b t, r = [a, b, t] := by
                  match r, hlen with
                  | [a, b, t], _ => exact ⟨a, b, t, rfl⟩
                have q := hparts
                simp [partsB, partB] at q
                obtain ⟨⟨qa, _⟩, ⟨qb, _⟩, _⟩ := q
                cases a <;> first | (cases qa; done) | skip
                cases b <;> first | (cases qb; done) | skip
                rename_i u w
                have hb := hparts
                simp only [partsB, List.zip_cons_cons, List.zip_nil_right, List.all_cons, List.all_nil, Bool.and_true, Bool.and_eq_true] at hb
                obtain ⟨b1, b2, b3⟩ := hb
                have hh := hparts
                simp [F_is_hole, startSl, semB, bIsi, isTy, hxr, lookup_any', hl, hc, Str.length, b1, b2, b3, bAll, boolsOf]
                simp [holeB, hl, hparts, strOf, Str.length, moreS]
              · have hp2 : bAll [.list ((List.zip ss.cps.toList r).map fun p => .bool (partB many p.1 p.2))] = some (.bool true) := (bAll_map _ _).trans (by rw [show List.all _ _ = true from hparts])
                have hm2 : ¬ k = ⟨#[109, 111, 114, 101]⟩ := hm
                simp [F_is_hole, startSl, semB, bIsi, isTy, hxr, lookup_any', hl, hc, hlen, hp2, hm2]
                simp [holeB, hl, hlen, hparts, hm]
            · simp only [Bool.not_eq_true] at hparts
              have hp2 : bAll [.list ((List.zip ss.cps.toList r).map fun p => .bool (partB many p.1 p.2))] = some (.bool false) := (bAll_map _ _).trans (by rw [show List.all _ _ = false from hparts])
              simp [F_is_hole, startSl, semB, bIsi, isTy, hxr, lookup_any', hl, hc, hlen, hp2]
              simp [holeB, hl, hlen, hparts]
          · have hlen2 : ¬ ((r.length : Int) + 1 = (ss.length : Int) + 1) := by omega
            refine runFn_ret rfl (sl := [some (.d (.tuple (.str k :: r))), some (.d (.int many)), some (.d (.str ss)), none, none]) ?_ rfl
            simp [F_is_hole, startSl, semB, bIsi, isTy, hxr, lookup_any', hl, hlen2]
            simp [holeB, hl, hlen]
      | _ => exact runFn_retE rfl rfl ⟨_, by simp [F_is_hole, startSl, semB, bIsi, isTy, holeB, hxr]; rfl⟩
  | _ => simp [runFn, F_is_hole, startSl, argsFit, endFn, outsOf, semB, bIsi, isTy, holeB]
def pieceB (many : Nat) (d : D) : Bool := match d with
  | .tuple [.str k, a] => if k = sayS then wordD a else holeB many d
  | _ => holeB many d
theorem run_is_piece [At P 0 F_is_whole] [At P 1 F_is_word] [At P 3 F_is_part] [At P 4 F_is_hole] [At P 5 F_is_piece] (n many : Nat) (d : D) (hd : d.plain = true) :
    run P (n + 4) 5 [.d d, .d (.int many)] = .ok (.bool (pieceB many d)) [] := by
  rw [run_at F_is_piece]
  have hh := run_is_hole (P := P) n many d hd
  cases d with
  | dict kvs => cases hd
  | tuple xs =>
    match xs, hd, hh with
    | [], hd, hh => exact runFn_retE rfl rfl ⟨_, by simp [pieceB, F_is_piece, startSl, semB, bIsi, isTy, hh]; rfl⟩
    | [x], hd, hh => exact runFn_retE rfl rfl ⟨_, by simp [pieceB, F_is_piece, startSl, semB, bIsi, isTy, hh]; rfl⟩
    | x :: y :: z :: r, hd, hh =>
      have : ¬ ((r.length : Int) + 1 + 1 + 1 = 2) := by omega
      exact runFn_retE rfl rfl ⟨_, by simp [pieceB, F_is_piece, startSl, semB, bIsi, isTy, hh, this]; rfl⟩
    | [x, y], hd, hh =>
      have hp := plain_tup hd
      have hy := run_is_word (P := P) (n + 2) y (plain_nd (hp y (by simp)))
      cases x with
      | dict kvs => exact absurd rfl (plain_nd (hp _ List.mem_cons_self) kvs)
      | str k =>
        by_cases hk : k = sayS
        · subst hk
          exact runFn_retE rfl rfl ⟨_, by simp [pieceB, F_is_piece, startSl, semB, bIsi, isTy, hh, hy, sayS]; rfl⟩
        · have hk' : ¬ k = ⟨#[115, 97, 121]⟩ := hk
          exact runFn_retE rfl rfl ⟨_, by simp [pieceB, F_is_piece, startSl, semB, bIsi, isTy, hh, hk, hk']; rfl⟩
      | _ => exact runFn_retE rfl rfl ⟨_, by simp [pieceB, F_is_piece, startSl, semB, bIsi, isTy, hh]; rfl⟩
  | _ => exact runFn_retE rfl rfl ⟨_, by simp [pieceB, F_is_piece, startSl, semB, bIsi, isTy, hh]; rfl⟩
end
inductive Piece where
  | say (w : Str) | sign (s : Str) (t : Nat) | first (s : Str) (t : Nat) | word (w : Str) (t : Nat) | size (t : Nat) | unlike (t : Nat) | longest (t : Nat) | place (w : Str) (t : Nat) | more (s r : Str) (t : Nat)
  deriving DecidableEq
def Piece.enc : Piece → D
  | .say w => .tuple [.str ⟨#[115, 97, 121]⟩, .str w]
  | .sign s t => .tuple [.str ⟨#[115, 105, 103, 110]⟩, .str s, .int t]
  | .first s t => .tuple [.str ⟨#[102, 105, 114, 115, 116]⟩, .str s, .int t]
  | .word s t => .tuple [.str ⟨#[119, 111, 114, 100]⟩, .str s, .int t]
  | .size t => .tuple [.str ⟨#[115, 105, 122, 101]⟩, .int t]
  | .unlike t => .tuple [.str ⟨#[117, 110, 108, 105, 107, 101]⟩, .int t]
  | .longest t => .tuple [.str ⟨#[108, 111, 110, 103, 101, 115, 116]⟩, .int t]
  | .place s t => .tuple [.str ⟨#[112, 108, 97, 99, 101]⟩, .str s, .int t]
  | .more s r t => .tuple [.str ⟨#[109, 111, 114, 101]⟩, .str s, .str r, .int t]
def Piece.isSay : Piece → Bool
  | .say _ => true
  | _ => false
def Piece.isMore : Piece → Bool
  | .more _ _ _ => true
  | _ => false
def sgnB (s : Str) : Bool := wordB s && decide (s.length = 1)
def Piece.okB (many : Nat) : Piece → Bool
  | .say w => wordB w
  | .sign s t => sgnB s && decide (t < many)
  | .first s t => sgnB s && decide (t < many)
  | .word w t => wordB w && decide (t < many)
  | .size t => decide (t < many)
  | .unlike t => decide (t < many)
  | .longest t => decide (t < many)
  | .place w t => wordB w && decide (t < many)
  | .more s r t => sgnB s && sgnB r && decide (s ≠ r) && decide (t < many)
structure Sys where
  nums : List Str
  forms : List (List Piece)
def Sys.enc (S : Sys) : D := .tuple [.tuple (S.nums.map .str), .tuple (S.forms.map fun f => .tuple (f.map Piece.enc))]
def Sys.holes (S : Sys) : List Piece := S.forms.flatMap fun f => f.filter (!·.isSay)
section
variable {P : Nat → Option Fn}
theorem enc_cons (p : Piece) : ∃ k r, p.enc = .tuple (.str k :: r) ∧ (k = ⟨#[115, 97, 121]⟩ ↔ p.isSay = true) ∧ (k = ⟨#[109, 111, 114, 101]⟩ ↔ p.isMore = true) := by
  cases p <;> exact ⟨_, _, rfl, by simp [Piece.isSay], by simp [Piece.isMore]⟩
theorem run_holes_of [At P 7 F_holes_of] (n : Nat) (a : D) (fs : List (List Piece)) (hf : fs.length ≤ 100) (hl : ∀ f ∈ fs, f.length ≤ 100) :
    run P (n + 1) 7 [.d (.tuple [a, .tuple (fs.map fun f => .tuple (f.map Piece.enc))])] = .ok (.tuple ((fs.flatMap fun f => f.filter (!·.isSay)).map Piece.enc)) [] := by
  rw [run_at F_holes_of]
  have sums : ∀ {fs : List (List Piece)}, (∀ f ∈ fs, f.length ≤ 100) → (fs.map fun f => f.length).sum ≤ 100 * fs.length := by
    intro fs
    induction fs with
    | nil => intro _; simp
    | cons f fs ih =>
      intro h
      have := ih fun g hg => h g (List.mem_cons_of_mem _ hg)
      have := h f List.mem_cons_self
      simp
      omega
  have hc : evalE (run P n) (.comp2 (.var 2) (.nm 1) (.seq (.idx (.val (.var 0)) (.val (.const (.int 1))))) (.nm 2) (.seq (.var 1)) (.some (.op .ne (.val (.idx (.val (.var 2)) (.val (.const (.int 0))))) (.val (.const (.str ⟨#[115, 97, 121]⟩))))) [1, 2] [2]) [some (.d (.tuple [a, .tuple (fs.map fun f => .tuple (f.map Piece.enc))])), none, none] =
      .ok (.list (fs.flatMap fun f => f.filterMap fun p => if p.isSay then none else some p.enc)) [some (.d (.tuple [a, .tuple (fs.map fun f => .tuple (f.map Piece.enc))])), none, none] := by
    refine evE_comp2T fs (fun f => .tuple (f.map Piece.enc)) (fun f => f) Piece.enc (fun _ p => if p.isSay then none else some p.enc) (by simp) (by simp) (by simp) (by simp) (by have := sums hl; have := sizeLine_ge; omega) fun f _ => ⟨_, _, rfl, by simp; rfl, by simp, fun p _ => ?_⟩
    obtain ⟨k, r, e1, e2, _⟩ := enc_cons p
    cases hs : p.isSay with
    | true =>
      have hk := e2.mpr hs
      exact ⟨_, by simp [turnW, e1, hk]; rfl, by simp⟩
    | false =>
      have hk : ¬ k = ⟨#[115, 97, 121]⟩ := fun z => by rw [e2.mp z] at hs; cases hs
      exact ⟨_, by simp [turnW, e1, hk]; rfl, by simp⟩
  have e : (fs.flatMap fun f => f.filterMap fun p => if p.isSay then none else some p.enc) = (fs.flatMap fun f => f.filter (!·.isSay)).map Piece.enc := by
    rw [List.map_flatMap]
    congr 1
    funext f
    induction f with
    | nil => rfl
    | cons p f ih =>
      rw [List.filterMap_cons, List.filter_cons, ih]
      cases p.isSay <;> simp
  rw [e] at hc
  exact runFn_retE rfl rfl ⟨_, by simp [F_holes_of, startSl, hc, semB, bTuple]; rfl⟩
theorem one_str {d : D} (h : wordD d = true) : ∃ x, d = .str x ∧ wordB x = true := by
  cases d <;> first | (cases h; done) | exact ⟨_, rfl, h⟩
theorem part_t {many : Nat} {d : D} (h : partB many 116 d = true) : ∃ t : Nat, d = .int t ∧ t < many := by
  unfold partB at h
  rw [if_pos rfl] at h
  cases d <;> first | (cases h; done) | skip
  rename_i i
  simp only [Bool.and_eq_true, decide_eq_true_eq] at h
  exact ⟨i.toNat, by rw [Int.toNat_of_nonneg h.1], by omega⟩
theorem part_w {many : Nat} {d : D} (h : partB many 119 d = true) : ∃ x, d = .str x ∧ wordB x = true := by
  unfold partB at h
  simp at h
  exact one_str h
theorem part_s {many : Nat} {d : D} (h : partB many 115 d = true) : ∃ x, d = .str x ∧ sgnB x = true := by
  unfold partB at h
  simp at h
  obtain ⟨x, rfl, hx⟩ := one_str h.1
  refine ⟨x, rfl, ?_⟩
  have := h.2
  simp at this
  simp [sgnB, hx, this]
/-- a hole is a written hole -/
theorem hole_enc {many : Nat} {d : D} (h : holeB many d = true) : ∃ p : Piece, d = p.enc ∧ p.isSay = false ∧ p.okB many = true := by
  unfold holeB at h
  split at h
  · rename_i k r
    split at h
    · rename_i ss hl
      simp only [Bool.and_eq_true, decide_eq_true_eq] at h
      obtain ⟨⟨h1, h2⟩, h3⟩ := h
      have key : ∀ {l : List (Str × Str)}, l.lookup k = some ss → (k, ss) ∈ l := by
        intro l
        induction l with
        | nil => intro h; cases h
        | cons p l ih =>
          intro h
          obtain ⟨a, b⟩ := p
          rw [List.lookup_cons] at h
          split at h
          · rename_i e
            obtain rfl := Option.some.inj h
            rw [beq_iff_eq.mp e]; exact List.mem_cons_self
          · exact List.mem_cons_of_mem _ (ih h)
      have mem := key hl
      unfold partsB at h2
      simp only [signsTab, List.mem_cons, Prod.mk.injEq, List.not_mem_nil, or_false] at mem
      have two : ∀ {c1 c2 : Nat}, ss = ⟨#[c1, c2]⟩ → ∃ a b, r = [a, b] ∧ partB many c1 a = true ∧ partB many c2 b = true := fun {c1 c2} e => by
        subst e
        match r, h1, h2 with
        | [a, b], _, h2 => simp at h2; exact ⟨a, b, rfl, h2.1, h2.2⟩
      have one : ∀ {c1 : Nat}, ss = ⟨#[c1]⟩ → ∃ a, r = [a] ∧ partB many c1 a = true := fun {c1} e => by
        subst e
        match r, h1, h2 with
        | [a], _, h2 => simp at h2; exact ⟨a, rfl, h2⟩
      have three : ∀ {c1 c2 c3 : Nat}, ss = ⟨#[c1, c2, c3]⟩ → ∃ a b t, r = [a, b, t] ∧ partB many c1 a = true ∧ partB many c2 b = true ∧ partB many c3 t = true := fun {c1 c2 c3} e => by
        subst e
        match r, h1, h2 with
        | [a, b, t], _, h2 => simp at h2; exact ⟨a, b, t, rfl, h2.1, h2.2.1, h2.2.2⟩
      rcases mem with ⟨rfl, e⟩ | ⟨rfl, e⟩ | ⟨rfl, e⟩ | ⟨rfl, e⟩ | ⟨rfl, e⟩ | ⟨rfl, e⟩ | ⟨rfl, e⟩ | ⟨rfl, e⟩
      · obtain ⟨a, b, rfl, p1, p2⟩ := two e
        obtain ⟨x, rfl, hx⟩ := part_s p1
        obtain ⟨t, rfl, ht⟩ := part_t p2
        exact ⟨.sign x t, rfl, rfl, by simp [Piece.okB, hx, ht]⟩
      · obtain ⟨a, b, rfl, p1, p2⟩ := two e
        obtain ⟨x, rfl, hx⟩ := part_s p1
        obtain ⟨t, rfl, ht⟩ := part_t p2
        exact ⟨.first x t, rfl, rfl, by simp [Piece.okB, hx, ht]⟩
      · obtain ⟨a, b, rfl, p1, p2⟩ := two e
        obtain ⟨x, rfl, hx⟩ := part_w p1
        obtain ⟨t, rfl, ht⟩ := part_t p2
        exact ⟨.word x t, rfl, rfl, by simp [Piece.okB, hx, ht]⟩
      · obtain ⟨b, rfl, p2⟩ := one e
        obtain ⟨t, rfl, ht⟩ := part_t p2
        exact ⟨.size t, rfl, rfl, by simp [Piece.okB, ht]⟩
      · obtain ⟨b, rfl, p2⟩ := one e
        obtain ⟨t, rfl, ht⟩ := part_t p2
        exact ⟨.unlike t, rfl, rfl, by simp [Piece.okB, ht]⟩
      · obtain ⟨b, rfl, p2⟩ := one e
        obtain ⟨t, rfl, ht⟩ := part_t p2
        exact ⟨.longest t, rfl, rfl, by simp [Piece.okB, ht]⟩
      · obtain ⟨a, b, rfl, p1, p2⟩ := two e
        obtain ⟨x, rfl, hx⟩ := part_w p1
        obtain ⟨t, rfl, ht⟩ := part_t p2
        exact ⟨.place x t, rfl, rfl, by simp [Piece.okB, hx, ht]⟩
      · obtain ⟨a, b, t, rfl, p1, p2, p3⟩ := three e
        obtain ⟨x, rfl, hx⟩ := part_s p1
        obtain ⟨y, rfl, hy⟩ := part_s p2
        obtain ⟨t, rfl, ht⟩ := part_t p3
        refine ⟨.more x y t, rfl, rfl, ?_⟩
        have : x ≠ y := by simpa [moreS, strOf] using h3
        simp [Piece.okB, hx, hy, ht, this]
    · cases h
  · cases h
theorem piece_enc {many : Nat} {d : D} (h : pieceB many d = true) : ∃ p : Piece, d = p.enc ∧ p.okB many = true := by
  have viaHole : holeB many d = true → ∃ p : Piece, d = p.enc ∧ p.okB many = true := fun h => by
    obtain ⟨p, h1, _, h3⟩ := hole_enc h
    exact ⟨p, h1, h3⟩
  unfold pieceB at h
  split at h
  · split at h
    · rename_i k a e
      subst e
      obtain ⟨x, rfl, hx⟩ := one_str h
      exact ⟨.say x, rfl, hx⟩
    · exact viaHole h
  · exact viaHole h
theorem pieces_enc {many : Nat} : ∀ {ds : List D}, ds.all (pieceB many) = true → ∃ ps : List Piece, ds = ps.map Piece.enc ∧ ∀ p ∈ ps, p.okB many = true
  | [], _ => ⟨[], rfl, fun p h => by cases h⟩
  | d :: ds, h => by
    rw [List.all_cons, Bool.and_eq_true] at h
    obtain ⟨p, rfl, hp⟩ := piece_enc h.1
    obtain ⟨ps, rfl, hps⟩ := pieces_enc h.2
    exact ⟨p :: ps, rfl, fun q hq => (List.mem_cons.mp hq).elim (fun e => by rw [e]; exact hp) (hps q)⟩
def formB (many : Nat) : D → Bool
  | .tuple ps => decide (1 ≤ ps.length) && decide (ps.length ≤ 12) && ps.all (pieceB many)
  | _ => false
theorem forms_enc {many : Nat} : ∀ {ds : List D}, ds.all (formB many) = true → ∃ fs : List (List Piece), ds = fs.map (fun f => .tuple (f.map Piece.enc)) ∧ ∀ f ∈ fs, 1 ≤ f.length ∧ f.length ≤ 12 ∧ ∀ p ∈ f, p.okB many = true
  | [], _ => ⟨[], rfl, fun p h => by cases h⟩
  | d :: ds, h => by
    rw [List.all_cons, Bool.and_eq_true] at h
    obtain ⟨fs, rfl, hfs⟩ := forms_enc h.2
    have h1 := h.1
    cases d <;> first | (cases h1; done) | skip
    rename_i ps
    simp only [formB, Bool.and_eq_true, decide_eq_true_eq] at h1
    obtain ⟨qs, rfl, hq⟩ := pieces_enc h1.2
    rw [List.length_map] at h1
    exact ⟨qs :: fs, rfl, fun f hf => (List.mem_cons.mp hf).elim (fun e => by rw [e]; exact ⟨h1.1.1, h1.1.2, hq⟩) (hfs f)⟩
/-- how many holes there are, of anything -/
def isSayD : D → Bool
  | .tuple (.str k :: _) => decide (k = sayS)
  | _ => false
def holesN (fs : List D) : Nat := (fs.flatMap fun f => match f with | .tuple ps => ps.filter (!isSayD ·) | _ => []).length
def sysB : D → Bool
  | .tuple [a, .tuple fs] => numsD a && decide (1 ≤ fs.length) && decide (fs.length ≤ 3) && fs.all (formB fs.length) && decide (1 ≤ holesN fs) && decide (holesN fs ≤ 6)
  | _ => false
theorem isSay_enc (p : Piece) : isSayD p.enc = p.isSay := by cases p <;> simp [isSayD, Piece.enc, Piece.isSay, sayS]
theorem holesN_enc (fs : List (List Piece)) : holesN (fs.map fun f => .tuple (f.map Piece.enc)) = (fs.flatMap fun f => f.filter (!·.isSay)).length := by
  unfold holesN
  rw [List.flatMap_map, List.length_flatMap, List.length_flatMap]
  congr 1
  congr 1
  funext f
  induction f with
  | nil => rfl
  | cons p f ih =>
    simp only [List.map_cons, List.filter_cons, isSay_enc]
    cases p.isSay <;> simpa using ih
theorem run_is_system [At P 0 F_is_whole] [At P 1 F_is_word] [At P 2 F_are_numerals] [At P 3 F_is_part] [At P 4 F_is_hole] [At P 5 F_is_piece] [At P 6 F_is_system] [At P 7 F_holes_of] (n : Nat) (d : D) (hd : d.plain = true) : run P (n + 5) 6 [.d d] = .ok (.bool (sysB d)) [] := by
  rw [run_at F_is_system, runFn_fin rfl]
  cases d with
  | dict kvs => cases hd
  | tuple xs =>
    match xs, hd with
    | [], hd => simp [F_is_system, startSl, semB, bIsi, isTy, sysB]
    | [x], hd => simp [F_is_system, startSl, semB, bIsi, isTy, sysB]
    | x :: y :: z :: r, hd =>
      have : ¬ ((r.length : Int) + 1 + 1 + 1 = 2) := by omega
      simp [F_is_system, startSl, semB, bIsi, isTy, sysB, this]
    | [a, b], hd =>
      have hp := plain_tup hd
      have hn := run_are_numerals (P := P) (n + 2) a (hp a (by simp))
      cases hna : numsD a with
      | false => cases b <;> simp [F_is_system, startSl, semB, bIsi, isTy, sysB, hn, hna]
      | true =>
        cases b with
        | dict kvs => exact absurd rfl (plain_nd (hp (.dict kvs) (by simp)) kvs)
        | tuple fs =>
          by_cases h1 : (1 : Int) ≤ (fs.length : Int)
          · by_cases h3 : (fs.length : Int) ≤ 3
            · have g1 : 1 ≤ fs.length := by omega
              have g3 : fs.length ≤ 3 := by omega
              have hfs := plain_tup (hp (.tuple fs) (by simp))
              simp [F_is_system, startSl, semB, bIsi, isTy, hn, hna, h1, h3]
              refine for_find (fun sl => ∃ y, sl = [some (X.d (.tuple [a, .tuple fs])), some (.d (.tuple fs)), y, none]) (fun x => if formB fs.length x then none else some (.bool false)) ?_ ⟨none, rfl⟩ ?_ ?_
              · rintro x hx sl ⟨y, rfl⟩
                have hpx := hfs x hx
                cases x with
                | dict kvs => cases hpx
                | tuple ps =>
                  by_cases k1 : (1 : Int) ≤ (ps.length : Int)
                  · by_cases k2 : (ps.length : Int) ≤ 12
                    · have q1 : 1 ≤ ps.length := by omega
                      have q2 : ps.length ≤ 12 := by omega
                      have hps := plain_tup hpx
                      have hc : evalE (run P (n + 4)) (.comp (.call 5 (.cons (.val (.var 3)) (.cons (.val (.bi .len (.cons (.val (.var 1)) .nil))) .nil))) (.nm 3) (.seq (.var 2)) .none [3]) [some (X.d (.tuple [a, .tuple fs])), some (.d (.tuple fs)), some (.d (.tuple ps)), none] =
                          .ok (.list (ps.map fun p => .bool (pieceB fs.length p))) [some (X.d (.tuple [a, .tuple fs])), some (.d (.tuple fs)), some (.d (.tuple ps)), none] := by
                        refine evE_compM ps id (fun p => .bool (pieceB fs.length p)) (by simp) (by simp) (by simp) (by have := sizeLine_ge; omega) fun p hp => ⟨_, by simp [turnW, semB, run_is_piece n fs.length p (hps p hp)]; rfl, by simp⟩
                      cases hall : ps.all (pieceB fs.length) with
                      | true => exact .inr ⟨by simp [formB, q1, q2, hall], _, by simp [semB, bIsi, isTy, k1, k2, hc, bAll_map, hall]; rfl, _, rfl⟩
                      | false => exact .inl ⟨_, _, by simp [formB, q1, q2, hall]; rfl, by simp [semB, bIsi, isTy, k1, k2, hc, bAll_map, hall]; rfl, rfl⟩
                    · have q2 : ¬ ps.length ≤ 12 := by omega
                      exact .inl ⟨_, _, by simp [formB, q2]; rfl, by simp [semB, bIsi, isTy, k1, k2]; rfl, rfl⟩
                  · have q1 : ¬ 1 ≤ ps.length := by omega
                    exact .inl ⟨_, _, by simp [formB, q1]; rfl, by simp [semB, bIsi, isTy, k1]; rfl, rfl⟩
                | _ => exact .inl ⟨_, _, by simp [formB]; rfl, by simp [semB, bIsi, isTy]; rfl, rfl⟩
              · intro d hd
                obtain ⟨x, hx, hbad⟩ := List.exists_of_findSome?_eq_some hd
                split at hbad
                · cases hbad
                · rename_i hf
                  obtain rfl := Option.some.inj hbad
                  have : fs.all (formB fs.length) = false := by
                    rw [List.all_eq_false]
                    exact ⟨x, hx, hf⟩
                  simp [sysB, this]
              · rintro hnone sl' ⟨y, rfl⟩
                have hff : fs.all (formB fs.length) = true := by
                  rw [List.all_eq_true]
                  intro x hx
                  have := List.findSome?_eq_none_iff.mp hnone x hx
                  split at this
                  · assumption
                  · cases this
                obtain ⟨gs, e, hgs⟩ := forms_enc hff
                subst e
                have hol := run_holes_of (P := P) (n + 3) a gs (by rw [List.length_map] at g3; omega) (fun f hf => by have := (hgs f hf).2.1; omega)
                have hN := holesN_enc gs
                generalize (gs.flatMap fun f => f.filter (!·.isSay)) = HS at hol hN
                simp [semB, hol]
                rw [List.length_map] at g1 g3 hff
                have e6 : decide ((HS.length : Int) ≤ 6) = decide (HS.length ≤ 6) := by rw [decide_eq_decide]; omega
                by_cases m1 : (1 : Int) ≤ (HS.length : Int)
                · have l1 : 1 ≤ HS.length := by omega
                  simp [m1, sysB, hna, g1, g3, hff, hN, l1, e6]
                · have l1 : ¬ 1 ≤ HS.length := by omega
                  simp [m1, sysB, hN, l1]
            · have g3 : ¬ fs.length ≤ 3 := by omega
              simp [F_is_system, startSl, semB, bIsi, isTy, sysB, hn, hna, h1, h3, g3]
          · have g1 : ¬ 1 ≤ fs.length := by omega
            simp [F_is_system, startSl, semB, bIsi, isTy, sysB, hn, hna, h1, g1]
        | _ => simp [F_is_system, startSl, semB, bIsi, isTy, sysB, hn, hna]
  | _ => simp [F_is_system, startSl, semB, bIsi, isTy, sysB]
end
end Rf
end
section
set_option linter.all false
set_option maxRecDepth 100000
namespace Rf
open PySem
@[simp] theorem sz_1 : (1 ≤ sizeLine) = True := eq_true (by decide)
@[simp] theorem sz_2 : (2 ≤ sizeLine) = True := eq_true (by decide)
@[simp] theorem sz_3 : (3 ≤ sizeLine) = True := eq_true (by decide)
@[simp] theorem sz_4 : (4 ≤ sizeLine) = True := eq_true (by decide)
@[simp] theorem sz_5 : (5 ≤ sizeLine) = True := eq_true (by decide)
@[simp] theorem sz_6 : (6 ≤ sizeLine) = True := eq_true (by decide)
@[simp] theorem sz_7 : (7 ≤ sizeLine) = True := eq_true (by decide)
@[simp] theorem sz_8 : (8 ≤ sizeLine) = True := eq_true (by decide)
@[simp] theorem sz_9 : (9 ≤ sizeLine) = True := eq_true (by decide)
@[simp] theorem sz_10 : (10 ≤ sizeLine) = True := eq_true (by decide)
@[simp] theorem sz_11 : (11 ≤ sizeLine) = True := eq_true (by decide)
@[simp] theorem sz_12 : (12 ≤ sizeLine) = True := eq_true (by decide)
@[simp] theorem sz_13 : (13 ≤ sizeLine) = True := eq_true (by decide)
@[simp] theorem sz_14 : (14 ≤ sizeLine) = True := eq_true (by decide)
@[simp] theorem sz_15 : (15 ≤ sizeLine) = True := eq_true (by decide)
@[simp] theorem sz_16 : (16 ≤ sizeLine) = True := eq_true (by decide)
@[simp] theorem sz_17 : (17 ≤ sizeLine) = True := eq_true (by decide)
@[simp] theorem sz_18 : (18 ≤ sizeLine) = True := eq_true (by decide)
@[simp] theorem sz_19 : (19 ≤ sizeLine) = True := eq_true (by decide)
@[simp] theorem sz_20 : (20 ≤ sizeLine) = True := eq_true (by decide)
@[simp] theorem sz_21 : (21 ≤ sizeLine) = True := eq_true (by decide)
@[simp] theorem sz_22 : (22 ≤ sizeLine) = True := eq_true (by decide)
@[simp] theorem sz_23 : (23 ≤ sizeLine) = True := eq_true (by decide)
@[simp] theorem sz_24 : (24 ≤ sizeLine) = True := eq_true (by decide)
@[simp] theorem sz_25 : (25 ≤ sizeLine) = True := eq_true (by decide)
@[simp] theorem sz_26 : (26 ≤ sizeLine) = True := eq_true (by decide)
@[simp] theorem sz_27 : (27 ≤ sizeLine) = True := eq_true (by decide)
@[simp] theorem sz_28 : (28 ≤ sizeLine) = True := eq_true (by decide)
@[simp] theorem sz_29 : (29 ≤ sizeLine) = True := eq_true (by decide)
@[simp] theorem sz_30 : (30 ≤ sizeLine) = True := eq_true (by decide)
@[simp] theorem sz_31 : (31 ≤ sizeLine) = True := eq_true (by decide)
@[simp] theorem sz_32 : (32 ≤ sizeLine) = True := eq_true (by decide)
@[simp] theorem sz_33 : (33 ≤ sizeLine) = True := eq_true (by decide)
@[simp] theorem sz_34 : (34 ≤ sizeLine) = True := eq_true (by decide)
@[simp] theorem sz_35 : (35 ≤ sizeLine) = True := eq_true (by decide)
@[simp] theorem sz_36 : (36 ≤ sizeLine) = True := eq_true (by decide)
@[simp] theorem sz_37 : (37 ≤ sizeLine) = True := eq_true (by decide)
@[simp] theorem sz_38 : (38 ≤ sizeLine) = True := eq_true (by decide)
@[simp] theorem sz_39 : (39 ≤ sizeLine) = True := eq_true (by decide)
@[simp] theorem sz_40 : (40 ≤ sizeLine) = True := eq_true (by decide)
@[simp] theorem sz_0 : (0 < sizeLine) = True := eq_true (by decide)
def R.wp {α : Type} (r : R α) (Q : α → Sl → Prop) (_u : Mark Q := .mk) : Prop := match r with
  | .ok a sl => Q a sl
  | _ => False
def F.wp (r : F) (N : Sl → Prop) (T : D → Sl → Prop) (_u : Mark N := .mk) (_v : Mark T := .mk) : Prop := match r with
  | .nx sl => N sl
  | .ret d sl => T d sl
  | _ => False
def CR.wp (r : CR) (Q : D → List Cell → Prop) (_u : Mark Q := .mk) : Prop := match r with
  | .ok d outs => Q d outs
  | _ => False
def endWp (ins : List Bool) (Q : D → List Cell → Prop) (d : D) (sl : Sl) : Prop := match outsOf sl 0 ins with
  | some outs => Q d outs
  | none => False
@[simp] theorem R.wp_ok {α : Type} (a : α) (sl : Sl) (Q : α → Sl → Prop) (u : Mark Q) : (R.ok a sl).wp Q u = Q a sl := rfl
@[simp] theorem F.wp_nx (sl : Sl) (N : Sl → Prop) (T : D → Sl → Prop) (u : Mark N) (v : Mark T) : (F.nx sl).wp N T u v = N sl := rfl
@[simp] theorem F.wp_ret (d : D) (sl : Sl) (N : Sl → Prop) (T : D → Sl → Prop) (u : Mark N) (v : Mark T) : (F.ret d sl).wp N T u v = T d sl := rfl
@[simp] theorem CR.wp_ok (d : D) (o : List Cell) (Q : D → List Cell → Prop) (u : Mark Q) : (CR.ok d o).wp Q u = Q d o := rfl
@[simp] theorem R.wp_bnd {α β : Type} (r : R α) (f : α → Sl → R β) (Q : β → Sl → Prop) (u : Mark f) (v : Mark Q) : (r.bnd f u).wp Q v = r.wp fun a sl => (f a sl).wp Q := by cases r <;> rfl
@[simp] theorem F.wp_run {α : Type} (r : R α) (g : α → Sl → F) (N : Sl → Prop) (T : D → Sl → Prop) (u : Mark g) (v : Mark N) (w : Mark T) : (r.rn g u).wp N T v w = r.wp fun a sl => (g a sl).wp N T := by cases r <;> rfl
@[simp] theorem F.wp_seq (f : F) (g : Sl → F) (N : Sl → Prop) (T : D → Sl → Prop) (u : Mark g) (v : Mark N) (w : Mark T) : (f.sq g u).wp N T v w = f.wp (fun sl => (g sl).wp N T) T := by cases f <;> rfl
@[simp] theorem CR.wp_fin (ins : List Bool) (f : F) (Q : D → List Cell → Prop) (u : Mark Q) : (fin ins f).wp Q u = f.wp (endWp ins Q .none) (endWp ins Q) := by
  cases f with
  | nx sl => show CR.wp (match outsOf sl 0 ins with | some outs => CR.ok .none outs | none => .stuck) Q = match outsOf sl 0 ins with | some outs => Q .none outs | none => False
             cases outsOf sl 0 ins <;> rfl
  | ret d sl => show CR.wp (match outsOf sl 0 ins with | some outs => CR.ok d outs | none => .stuck) Q = match outsOf sl 0 ins with | some outs => Q d outs | none => False
                cases outsOf sl 0 ins <;> rfl
  | brk sl => rfl
  | exc c sl => show CR.wp (if ins.all (!·) then CR.exc c else .stuck) Q = False
                cases ins.all (!·) <;> rfl
  | stuck => rfl
theorem R.wp_mono {α : Type} {r : R α} {Q Q' : α → Sl → Prop} (h : r.wp Q) (i : ∀ a sl, Q a sl → Q' a sl) : r.wp Q' := by
  cases r with
  | ok a sl => exact i a sl h
  | exc c sl => exact h
  | stuck => exact h
theorem CR.wp_mono {r : CR} {Q Q' : D → List Cell → Prop} (h : r.wp Q) (i : ∀ a sl, Q a sl → Q' a sl) : r.wp Q' := by
  cases r with
  | ok a sl => exact i a sl h
  | exc c => exact h
  | stuck => exact h
theorem CR.wp_eq {r : CR} {Q : D → List Cell → Prop} (h : r.wp Q) : ∃ d o, r = .ok d o ∧ Q d o := by
  cases r with
  | ok d o => exact ⟨d, o, rfl, h⟩
  | exc c => exact h.elim
  | stuck => exact h.elim
theorem R.wp_eq {α : Type} {r : R α} {Q : α → Sl → Prop} (h : r.wp Q) : ∃ d o, r = .ok d o ∧ Q d o := by
  cases r with
  | ok d o => exact ⟨d, o, rfl, h⟩
  | exc c => exact h.elim
  | stuck => exact h.elim
theorem wp_for {body : D → Sl → F} {N : Sl → Prop} {T : D → Sl → Prop} : ∀ {xs : List D} {sl : Sl} (I : Nat → Sl → Prop), (∀ i x sl, xs[i]? = some x → I i sl → (body x sl).wp (I (i + 1)) T) → I 0 sl → (∀ sl, I xs.length sl → N sl) → (forLoop body xs sl).wp N T
  | [], sl, I, _, h0, hn => hn sl h0
  | x :: xs, sl, I, h, h0, hn => by
    have h1 := h 0 x sl rfl h0
    unfold forLoop
    revert h1
    cases body x sl with
    | nx sl' => exact fun h1 => wp_for (xs := xs) (fun i => I (i + 1)) (fun i y s hy hi => h (i + 1) y s (by simpa using hy) hi) h1 hn
    | ret d sl' => exact id
    | brk sl' => exact fun z => z.elim
    | exc c sl' => exact fun z => z.elim
    | stuck => exact fun z => z.elim
theorem wp_while {cond : Sl → R Bool} {body : Sl → F} {N : Sl → Prop} {T : D → Sl → Prop} (I : Nat → Sl → Prop) (h : ∀ k sl, I k sl → (cond sl).wp fun b sl => if b then ∃ k', k = k' + 1 ∧ (body sl).wp (I k') T else N sl) : ∀ (n k : Nat) (sl : Sl), I k sl → k < n → (whileLoop cond body n sl).wp N T
  | 0, _, _, _, hk => absurd hk (Nat.not_lt_zero _)
  | n + 1, k, sl, h0, hk => by
    have h1 := h k sl h0
    unfold whileLoop
    revert h1
    cases cond sl with
    | ok b s1 =>
      cases b with
      | false => exact id
      | true =>
        intro ⟨k', e, h2⟩
        rw [R.run_ok, if_pos rfl]
        revert h2
        cases body s1 with
        | nx sl' => exact fun h2 => wp_while I h n k' sl' h2 (by omega)
        | ret d sl' => exact id
        | brk sl' => exact fun z => z.elim
        | exc c sl' => exact fun z => z.elim
        | stuck => exact fun z => z.elim
    | exc c s => exact fun z => z.elim
    | stuck => exact fun z => z.elim
section
variable (Γ : Nat → List X → CR) (sl : Sl)
theorem evN_of {Γ : Nat → List X → CR} {l : L} {sl : Sl} (h : ∀ k, l ≠ .dict k) : evalN Γ l sl = (evalE Γ l sl).bind fun x sl => R.of (thaw x) sl := by
  cases l <;> first
    | exact absurd rfl (h _)
    | rfl
@[simp] theorem evN_lst (es : Ls) : evalN Γ (.lst es) sl = (evalE Γ (.lst es) sl).bnd fun x sl => R.of (thaw x) sl := rfl
@[simp] theorem evN_bi (b : Bi) (as : As) : evalN Γ (.bi b as) sl = (evalE Γ (.bi b as) sl).bnd fun x sl => R.of (thaw x) sl := rfl
@[simp] theorem evN_op (o : O2) (a b : Z) : evalN Γ (.op o a b) sl = (evalE Γ (.op o a b) sl).bnd fun x sl => R.of (thaw x) sl := rfl
@[simp] theorem evN_slice (a : Z) (l h : Ol) : evalN Γ (.slice a l h) sl = (evalE Γ (.slice a l h) sl).bnd fun x sl => R.of (thaw x) sl := rfl
@[simp] theorem evN_call (f : Nat) (as : As) : evalN Γ (.call f as) sl = (evalE Γ (.call f as) sl).bnd fun x sl => R.of (thaw x) sl := rfl
@[simp] theorem evN_comp (e : L) (t : T) (it : I) (c : Ol) (o : List Nat) : evalN Γ (.comp e t it c o) sl = (evalE Γ (.comp e t it c o) sl).bnd fun x sl => R.of (thaw x) sl := rfl
@[simp] theorem evN_dict (kvs : List (DK × D)) : evalN Γ (.dict kvs) sl = .ok (.dK kvs) sl := rfl
@[simp] theorem thaw_list (xs : List D) : thaw (.list xs) = some (.lst xs) := rfl
@[simp] theorem evPs_nil : evalPs Γ [] .nil sl = .ok [] sl := rfl
@[simp] theorem evPs_t (bs : List Bool) (a : L) (r : Ls) : evalPs Γ (true :: bs) (.cons a r) sl = (evalN Γ a sl).bnd fun k sl => (evalPs Γ bs r sl).bnd fun xs sl => .ok (.cell true k :: xs) sl := rfl
@[simp] theorem evPs_f (bs : List Bool) (a : L) (r : Ls) : evalPs Γ (false :: bs) (.cons a r) sl = (evalE Γ a sl).bnd fun x sl => (evalPs Γ bs r sl).bnd fun xs sl => .ok (.d x :: xs) sl := rfl
@[simp] theorem setPar_nil : setPar sl [] [] = some sl := rfl
@[simp] theorem setPar_cons (i : Nat) (b : Bool) (ts : List (Nat × Bool)) (x : X) (xs : List X) : setPar sl ((i, b) :: ts) (x :: xs) = setPar (sl.set i (some x)) ts xs := rfl
@[simp] theorem evE_popAt (i : Nat) (a : L) : evalE Γ (.popAt i a) sl = if isLst sl i then (evalE Γ a sl).bnd fun x sl => match sl[i]?, x with
    | some (some (.cell own (.lst xs))), .int k => if decide (-(2 ^ 63) ≤ k) && decide (k < 2 ^ 63) then match place xs.length k with
      | some j => match xs[j]? with
        | some y => .ok y (sl.set i (some (.cell own (.lst (xs.eraseIdx j)))))
        | none => .stuck
      | none => .stuck else .stuck
    | _, _ => .stuck else .stuck := by simp only [evalE] <;> rfl
@[simp] theorem evE_pop (i : Nat) : evalE Γ (.pop i) sl = match sl[i]? with
    | some (some (.cell own (.lst xs))) => match xs.getLast? with
      | some y => .ok y (sl.set i (some (.cell own (.lst xs.dropLast))))
      | none => .stuck
    | _ => .stuck := by simp only [evalE] <;> rfl
@[simp] theorem evS_ext (i : Nat) (e : L) : evalS Γ (.ext i e) sl = if isLst sl i then (evalN Γ e sl).rn fun x sl => match x with
    | .lst ys => F.of (updCell sl i (cExtend ys))
    | _ => .stuck else .stuck := by simp only [evalS] <;> rfl
@[simp] theorem evS_ins (i : Nat) (a e : L) : evalS Γ (.ins i a e) sl = if isLst sl i then (evalE Γ a sl).rn fun k sl => (evalE Γ e sl).rn fun x sl => match k with
    | .int k => F.of (updCell sl i (cInsert k x))
    | _ => .stuck else .stuck := by simp only [evalS] <;> rfl
@[simp] theorem evE_dget (i : Nat) (k d : L) : evalE Γ (.dget i k d) sl = if isDct sl i then (evalE Γ k sl).bnd fun x sl => (evalE Γ d sl).bnd fun y sl => match sl[i]? with
    | some (some (.cell _ (.dK kvs))) => R.of ((dK? x).map fun k => (vGet kvs k).getD y) sl
    | _ => .stuck else .stuck := by simp only [evalE] <;> rfl
@[simp] theorem whC_def (c : L) : whC Γ c sl = (evalE Γ c sl).bnd fun x sl => .ok (truth x) sl := rfl
end
theorem place_in {n : Nat} {i : Int} (h0 : 0 ≤ i) (h1 : i < n) : place n i = some i.toNat := by
  unfold place
  rw [if_pos h0, if_pos h1]
theorem place_out {n : Nat} {i : Int} (h0 : 0 ≤ i) (h1 : ¬ i < n) : place n i = none := by
  unfold place
  rw [if_pos h0, if_neg h1]
def town (ts : List Int) : Cell := .lst (ts.map .int)
def scr (ns : List Int) : D := .list (ns.map .int)
def townMax : Nat := 900000
/-- def f draws with these further arguments: at most c more in the town -/
def Draws (P : Nat → Option Fn) (n f : Nat) (ns : List Int) (args : List D) (c : Nat) (Q : D → Prop) : Prop :=
  ∀ ts : List Int, ts.length + c ≤ townMax → (run P n f (.d (scr ns) :: .cell false (town ts) :: args.map .d)).wp fun d outs => ∃ ts' : List Int, outs = [town ts'] ∧ ts'.length ≤ ts.length + c ∧ Q d
theorem wp_draws {P : Nat → Option Fn} {n f : Nat} {ns : List Int} {args : List D} {c : Nat} {Q : D → Prop} (h : Draws P n f ns args c Q) {i : Nat} {own : Bool} {ts : List Int} {sl : Sl} {K : D → Sl → Prop} (hi : sl[i]? = some (some (.cell own (town ts)))) (hb : ts.length + c ≤ townMax)
    (hQ : ∀ d (ts' : List Int), ts'.length ≤ ts.length + c → Q d → K d (sl.set i (some (.cell own (town ts'))))) : (doCall (run P n) f (.inl (scr ns) :: .inr i :: args.map .inl) sl).wp K := by
  obtain ⟨d, o, e, ts', rfl, h2, h3⟩ := CR.wp_eq (h ts hb)
  rw [doCall_town hi e]
  exact hQ d ts' h2 h3
theorem fin_town {ts : List Int} {s : X} {r : List (Option X)} {k : List Bool} {Q : D → List Cell → Prop} {d : D} (hk : k.all (!·) = true) (h : Q d [town ts]) : endWp (false :: true :: k) Q d (some s :: some (.cell false (town ts)) :: r) := by
  have : ∀ (ins : List Bool) (sl : Sl) (i : Nat), ins.all (!·) = true → outsOf sl i ins = some [] := by
    intro ins
    induction ins with
    | nil => intro sl i _; rfl
    | cons b r ih =>
      intro sl i h
      cases b with
      | true => simp at h
      | false => exact ih sl (i + 1) (by simpa using h)
  unfold endWp
  simp only [outsOf, List.getElem?_cons_succ, List.getElem?_cons_zero, this k _ 2 hk, Option.map_some]
  exact h
end Rf
end
section
set_option linter.all false
set_option maxRecDepth 100000
namespace Rf
open PySem
section
variable {P : Nat → Option Fn}
theorem alike_int (i j : Int) : PySem.W.alike (.int i) (.int j) = true := rfl
theorem depth_ints : ∀ ns : List Int, PyData.depthAll (ns.map .int) ≤ depthLine
  | [] => by decide
  | n :: ns => by
    have := depth_ints ns
    rw [List.map_cons, PyData.depthAll]
    simp [PyData.depth]
    exact this
theorem max_ints (n : Int) (ns : List Int) : ∃ m : Int, bMax [.list ((n :: ns).map .int)] = some (.int m) := by
  have ha : alikeB ((n :: ns).map .int) = true := by
    unfold alikeB allAlikeB
    simp only [Bool.and_eq_true]
    refine ⟨⟨?_, ?_⟩, decide_eq_true (depth_ints _)⟩
    · rw [List.all_eq_true]
      intro x hx
      obtain ⟨i, _, rfl⟩ := List.mem_map.mp hx
      rw [List.all_eq_true]
      intro y hy
      obtain ⟨j, _, rfl⟩ := List.mem_map.mp hy
      exact alike_int i j
    · rw [List.all_eq_true]
      intro x hx
      obtain ⟨i, _, rfl⟩ := List.mem_map.mp hx
      rfl
  refine ⟨ns.foldl max n, ?_⟩
  rw [List.map_cons] at ha ⊢
  show (if alikeB _ then some (PySem.W.maxD (.int n) (ns.map .int)) else none) = _
  rw [if_pos ha, PySem.W.maxD_ints]
theorem mulOk_l {i j : Int} (h1 : -(2 ^ 64) < i) (h2 : i < 2 ^ 64) : mulOk i j = true := by
  unfold mulOk
  simp only [Bool.or_eq_true, Bool.and_eq_true, decide_eq_true_eq]
  exact .inl ⟨h1, h2⟩
theorem sMul_int {i j : Int} (h : mulOk i j = true) : sMul (.int i) (.int j) = some (.int (i * j)) := if_pos h
theorem sMod_int {i j : Int} (h : 0 < j) : sMod (.int i) (.int j) = some (.int (i % j)) := if_pos (decide_eq_true h)
theorem sFdiv_int {i j : Int} (h : 0 < j) (h2 : j < 1073741824) : sFdiv (.int i) (.int j) = some (.int (i / j)) := if_pos (by simp [h, h2])
theorem atI_ints {ns : List Int} {i : Int} (h0 : 0 ≤ i) (h1 : i < ns.length) : ∃ c : Int, atI (ns.map PyData.int) i = some (.int c) := by
  unfold atI place
  rw [if_pos h0, if_pos (by rw [List.length_map]; exact h1)]
  have : i.toNat < ns.length := by omega
  exact ⟨ns[i.toNat], by show (ns.map PyData.int)[i.toNat]? = _; rw [List.getElem?_map, List.getElem?_eq_getElem this]; rfl⟩
theorem draws_draw [At P 13 F_l_draw] (n : Nat) (ns : List Int) (many : Int) (hns : ns.length ≤ 63) (hm : 0 < many) :
    Draws P (n + 1) 13 ns [.int many] 2 fun d => ∃ r : Int, d = .int r ∧ 0 ≤ r ∧ r < many := by
  have big := sizeLine_ge
  have key : ∀ (t : Int) (ts : List Int), ts.length ≤ 900000 → ∃ (r : Int) (ts' : List Int), fin [false, true, false] (evalSs (run P n) (match F_l_draw.body with | .cons _ r => r | .nil => .nil) [some (.d (.list (ns.map .int))), some (.cell false (.lst ((t :: ts).map .int))), some (.d (.int many)), none, none, none, none, none]) = .ok (.int r) [.lst (ts'.map .int)] ∧ 0 ≤ r ∧ r < many ∧ ts'.length = ts.length + 2 := by
    intro t ts hts
    have hd : truth (.list (ns.map PyData.int)) = false ∨ (truth (.list (ns.map PyData.int)) = true ∧ ∃ v c : Int, sMod (.int (ts.length + 1 + 1)) (.int ns.length) = some (.int v) ∧ atI (ns.map PyData.int) v = some (.int c)) := by
      cases ns with
      | nil => exact .inl (by simp [truth])
      | cons z zs =>
        have hp : (0 : Int) < ((z :: zs).length : Int) := by simp
        have h0 := Int.emod_nonneg (ts.length + 1 + 1 : Int) (show ((z :: zs).length : Int) ≠ 0 by omega)
        have h1 := Int.emod_lt_of_pos (ts.length + 1 + 1 : Int) hp
        obtain ⟨c, hc⟩ := atI_ints h0 h1
        exact .inr ⟨by simp [truth], _, c, sMod_int hp, hc⟩
    have ca : cAppend (.int 0) (.lst ((t :: ts).map .int)) = some (.lst ((t :: ts).map .int ++ [.int 0])) := if_pos (by simp; omega)
    simp only [List.map_cons, List.cons_append] at ca ⊢
    have m1 : ∀ y : Int, sMul (.int 40503) (.int y) = some (.int (40503 * y)) := fun y => sMul_int (mulOk_l (by decide) (by decide))
    have m2 : ∀ y : Int, sMul (.int 104729) (.int y) = some (.int (104729 * y)) := fun y => sMul_int (mulOk_l (by decide) (by decide))
    have m3 : ∀ x y : Int, sMul (.int (x % 4294967291)) (.int y) = some (.int (x % 4294967291 * y)) := fun x y => sMul_int (mulOk_l (by omega) (by omega))
    have m4 : ∀ x y : Int, sMul (.int (x % 4294967279)) (.int y) = some (.int (x % 4294967279 * y)) := fun x y => sMul_int (mulOk_l (by omega) (by omega))
    have m5 : ∀ x : Int, sMul (.int x) (.int 67108864) = some (.int (x * 67108864)) := fun x => sMul_int (by unfold mulOk; simp)
    have d1 : ∀ x : Int, sMod (.int x) (.int 65536) = some (.int (x % 65536)) := fun x => sMod_int (by decide)
    have d2 : ∀ x : Int, sMod (.int x) (.int 4294967291) = some (.int (x % 4294967291)) := fun x => sMod_int (by decide)
    have d3 : ∀ x : Int, sMod (.int x) (.int 4294967279) = some (.int (x % 4294967279)) := fun x => sMod_int (by decide)
    have d4 : ∀ x : Int, sMod (.int x) (.int many) = some (.int (x % many)) := fun x => sMod_int hm
    have f1 : ∀ x : Int, sFdiv (.int x) (.int 65536) = some (.int (x / 65536)) := fun x => sFdiv_int (by decide) (by decide)
    have f2 : ∀ x : Int, sFdiv (.int x) (.int 64) = some (.int (x / 64)) := fun x => sFdiv_int (by decide) (by decide)
    have se : ∀ (x : D) (r : List D) (y : D), cSet (.int 0) y (.lst (x :: r)) = some (.lst (y :: r)) := fun x r y => by
      unfold cSet place
      simp
    have hlen : ∀ (x y : D) (l : List D), (((x :: (l ++ [y])).length : Nat) : Int) = (l.length : Int) + 1 + 1 := fun x y l => by simp
    rcases hd with hd | ⟨hd, v, c, hv, hc⟩
    · refine ⟨_, t / 65536 :: (ts ++ [0]), by
        simp [F_l_draw, ca, semB, hd, m1, m2, m3, m4, m5, d1, d2, d3, d4, f1, f2, se, fin, outsOf]
        rfl, ?_, ?_, ?_⟩
      · exact Int.emod_nonneg _ (by omega)
      · exact Int.emod_lt_of_pos _ hm
      · simp
    · refine ⟨_, t / 65536 :: (ts ++ [0]), by
        simp [F_l_draw, ca, semB, hd, hv, hc, m1, m2, m3, m4, m5, d1, d2, d3, d4, f1, f2, se, fin, outsOf]
        rfl, ?_, ?_, ?_⟩
      · exact Int.emod_nonneg _ (by omega)
      · exact Int.emod_lt_of_pos _ hm
      · simp
  intro ts hts
  have hts : ts.length + 2 ≤ 900000 := hts
  rw [run_at F_l_draw, runFn_fin rfl]
  cases ts with
  | cons t ts =>
    obtain ⟨r, ts', e, h1, h2, h3⟩ := key t ts (by simp at hts; omega)
    have e0 : fin F_l_draw.ins (evalSs (run P n) F_l_draw.body (startSl F_l_draw (.d (scr ns) :: .cell false (town (t :: ts)) :: [PyData.int many].map .d))) = .ok (.int r) [.lst (ts'.map .int)] := by
      rw [← e]
      simp [F_l_draw, startSl, scr, town, truth]
    rw [e0]
    exact ⟨ts', rfl, by simp; omega, r, rfl, h1, h2⟩
  | nil =>
    have hc : evalE (run P n) (.comp (.bi .abs (.cons (.val (.var 4)) .nil)) (.nm 4) (.seq (.var 0)) .none [4]) [some (.d (.list (ns.map .int))), some (.cell false (.lst [])), some (.d (.int many)), none, none, none, none, none] = .ok (.list (ns.map fun i => .int (if i < 0 then -i else i : Int))) [some (.d (.list (ns.map .int))), some (.cell false (.lst [])), some (.d (.int many)), none, none, none, none, none] := evE_compM ns .int (fun i => .int (if i < 0 then -i else i : Int)) (by simp) (by simp) (by simp) (by omega) fun y hy => ⟨_, by simp [turnW, semB, bAbs]; rfl, by simp⟩
    have ha : sAdd (.list (ns.map fun i => .int (if i < 0 then -i else i : Int))) (.list [.int 0]) = some (.list ((ns.map fun i => .int (if i < 0 then -i else i : Int)) ++ [.int 0])) := sAdd_lst (by simp; omega)
    obtain ⟨m, hmx⟩ : ∃ m : Int, bMax [.list ((ns.map fun i => PyData.int (if i < 0 then -i else i : Int)) ++ [.int 0])] = some (.int m) := by
      have : (ns.map fun i => PyData.int (if i < 0 then -i else i : Int)) ++ [.int 0] = ((ns.map fun i => (if i < 0 then -i else i : Int)) ++ [0]).map .int := by simp
      rw [this]
      cases hh : (ns.map fun i => (if i < 0 then -i else i : Int)) ++ [0] with
      | nil => simp at hh
      | cons a r => exact max_ints a r
    obtain ⟨r, ts', e, h1, h2, h3⟩ := key m [] (by simp)
    have ca : cAppend (.int m) (.lst []) = some (.lst [.int m]) := by simp only [cAppend]; rw [if_pos (by simp)]; rfl
    have e0 : fin F_l_draw.ins (evalSs (run P n) F_l_draw.body (startSl F_l_draw (.d (scr ns) :: .cell false (town []) :: [PyData.int many].map .d))) = .ok (.int r) [.lst (ts'.map .int)] := by
      rw [← e]
      simp [F_l_draw, startSl, scr, town, truth, hc, ha, semB, hmx, ca]
    rw [e0]
    exact ⟨ts', rfl, by simp at h3 ⊢; omega, r, rfl, h1, h2⟩
end
end Rf
end
section
set_option linter.all false
set_option maxRecDepth 100000
namespace Rf
open PySem
section
variable {P : Nat → Option Fn}
theorem atI_mem {α : Type} {xs : List α} {i : Int} (h0 : 0 ≤ i) (h1 : i < xs.length) : ∃ x, atI xs i = some x ∧ x ∈ xs := by
  unfold atI place
  rw [if_pos h0, if_pos h1]
  have : i.toNat < xs.length := by omega
  exact ⟨xs[i.toNat], List.getElem?_eq_getElem this, List.getElem_mem this⟩
theorem draws_pick [At P 13 F_l_draw] [At P 14 F_l_pick] (n : Nat) (ns : List Int) (xs : List D) (hns : ns.length ≤ 63) (hx : xs ≠ []) :
    Draws P (n + 2) 14 ns [.list xs] 2 fun d => d ∈ xs := by
  intro ts hts
  have hp : 0 < xs.length := List.length_pos_iff.mpr hx
  rw [run_at F_l_pick, runFn_fin rfl]
  simp [F_l_pick, startSl, semB]
  refine wp_draws (args := [.int xs.length]) (draws_draw n ns _ hns (by omega)) rfl hts ?_
  rintro _ ts' h1 ⟨r, rfl, h2, h3⟩
  obtain ⟨x, e, hm⟩ := atI_mem h2 h3
  simp [e]
  exact fin_town rfl ⟨ts', rfl, h1, hm⟩
theorem range_get {lo : Int} {m k : Nat} {x : D} (h : (rangeD lo m)[k]? = some x) : k < m ∧ x = .int (lo + k) := by
  unfold rangeD at h
  rw [List.getElem?_map] at h
  obtain ⟨j, h1, h2⟩ := Option.map_eq_some_iff.mp h
  have := (List.getElem?_eq_some_iff.mp h1)
  obtain ⟨hl, he⟩ := this
  rw [List.length_range] at hl
  rw [List.getElem_range] at he
  subst he
  exact ⟨hl, h2.symm⟩
theorem range_len (lo : Int) (m : Nat) : (rangeD lo m).length = m := by
  unfold rangeD; rw [List.length_map, List.length_range]
def sevens : List D := [.str ⟨#[97]⟩, .str ⟨#[98]⟩, .str ⟨#[101]⟩, .str ⟨#[110]⟩, .str ⟨#[111]⟩, .str ⟨#[115]⟩, .str ⟨#[121]⟩]
theorem sevens_low {d : D} (h : d ∈ sevens) : ∃ c, d = .str ⟨#[c]⟩ ∧ lowB c = true := by
  unfold sevens at h
  simp only [List.mem_cons, List.not_mem_nil, or_false] at h
  rcases h with rfl | rfl | rfl | rfl | rfl | rfl | rfl <;> exact ⟨_, rfl, by decide⟩
theorem str_app_len (x : Str) (c : Nat) : (x ++ (⟨#[c]⟩ : Str)).length = x.length + 1 := by
  show (x.cps ++ #[c]).size = x.cps.size + 1
  simp
theorem str_app_low (x : Str) (c : Nat) : (x ++ (⟨#[c]⟩ : Str)).cps.toList = x.cps.toList ++ [c] := by
  show (x.cps ++ #[c]).toList = _
  simp
def lowW (w : Str) : Prop := w.cps.toList.all lowB = true
theorem lowW_app {w : Str} {c : Nat} (h : lowW w) (hc : lowB c = true) : lowW (w ++ (⟨#[c]⟩ : Str)) := by
  unfold lowW at *
  rw [str_app_low, List.all_append, h]
  simp [hc]
theorem draws_word [At P 13 F_l_draw] [At P 14 F_l_pick] [At P 16 F_l_drawn_word] (n : Nat) (ns : List Int) (most : Nat) (hns : ns.length ≤ 63) (hm : 0 < most) (hm2 : most ≤ 5) :
    Draws P (n + 3) 16 ns [.int most] 12 fun d => ∃ w : Str, d = .str w ∧ 1 ≤ w.length ∧ w.length ≤ most ∧ lowW w := by
  intro ts hts
  have big := sizeLine_ge
  rw [run_at F_l_drawn_word, runFn_fin rfl]
  simp [F_l_drawn_word, startSl]
  refine wp_draws (args := [.int most]) (draws_draw (n + 1) ns _ hns (by omega)) rfl (by omega) ?_
  rintro _ t1 h1 ⟨r, rfl, r0, r1⟩
  have sm : smallI (1 + r) = true := by unfold smallI; simp; omega
  simp [sm]
  obtain ⟨I, hI⟩ : ∃ I : Nat → Sl → Prop, I = fun k sl => ∃ (ts' : List Int) (w : Str) (x4 : Option X), sl = [some (.d (scr ns)), some (.cell false (town ts')), some (.d (.int most)), some (.d (.str w)), x4] ∧ ts'.length ≤ t1.length + 2 * k ∧ w.length = k ∧ lowW w := ⟨_, rfl⟩
  refine wp_for I ?_ (by rw [hI]; exact ⟨t1, ⟨#[]⟩, none, rfl, by omega, rfl, rfl⟩) ?_
  · intro k x sl hx hs
    rw [hI] at hs
    obtain ⟨ts', w, x4, rfl, h2, h3, h4⟩ := hs
    obtain ⟨hk, rfl⟩ := range_get hx
    simp
    refine wp_draws (args := [.list sevens]) (draws_pick n ns sevens hns (by simp [sevens])) rfl (by omega) ?_
    rintro _ t2 h5 hd
    obtain ⟨c, rfl, hc⟩ := sevens_low hd
    have hl := str_app_len w c
    have ha : sAdd (.str w) (.str ⟨#[c]⟩) = some (.str (w ++ ⟨#[c]⟩)) := sAdd_str (by rw [h3]; show k + 1 ≤ _; omega)
    simp [ha]
    rw [hI]
    exact ⟨_, _, _, rfl, by omega, by omega, lowW_app h4 hc⟩
  · intro sl hs
    rw [hI] at hs
    obtain ⟨ts', w, x4, rfl, h2, h3, h4⟩ := hs
    rw [range_len] at h2 h3
    simp
    exact fin_town rfl ⟨ts', rfl, by omega, w, rfl, by omega, by omega, h4⟩
theorem erase_perm {α : Type} : ∀ {xs : List α} {i : Nat} (h : i < xs.length), (xs[i] :: xs.eraseIdx i).Perm xs
  | x :: xs, 0, _ => List.Perm.refl _
  | x :: xs, i + 1, h => by
    rw [List.getElem_cons_succ, List.eraseIdx_cons_succ]
    exact (List.Perm.swap _ _ _).trans (List.Perm.cons x (erase_perm (by simpa using h)))
theorem truth_list (xs : List D) : truth (.list xs) = !xs.isEmpty := by cases xs <;> rfl
theorem draws_mixed [At P 13 F_l_draw] [At P 15 F_l_mixed] (n : Nat) (ns : List Int) (xs : List D) (hns : ns.length ≤ 63) (hx : xs.length ≤ 1000) :
    Draws P (n + 2) 15 ns [.list xs] (2 * xs.length) fun d => ∃ ys, d = .list ys ∧ ys.Perm xs := by
  intro ts hts
  have big := sizeLine_ge
  rw [run_at F_l_mixed, runFn_fin rfl]
  simp [F_l_mixed, startSl, semB, bList]
  obtain ⟨I, hI⟩ : ∃ I : Nat → Sl → Prop, I = fun k sl => ∃ (ts' : List Int) (rest found : List D), sl = [some (.d (scr ns)), some (.cell false (town ts')), some (.d (.list xs)), some (.cell true (.lst rest)), some (.cell true (.lst found))] ∧ ts'.length + 2 * k ≤ ts.length + 2 * xs.length ∧ rest.length = k ∧ (found ++ rest).Perm xs := ⟨_, rfl⟩
  refine wp_while I (fun k sl hs => ?_) fuel xs.length _ (by rw [hI]; exact ⟨ts, xs, [], rfl, by omega, rfl, List.Perm.refl _⟩) (by show xs.length < 1000000000; omega)
  rw [hI] at hs
  obtain ⟨ts', rest, found, rfl, h2, h3, h4⟩ := hs
  cases rest with
  | nil =>
    simp [truth]
    exact fin_town rfl ⟨ts', rfl, by omega, found, rfl, by simpa using h4⟩
  | cons x rest =>
    have hlen := h4.length_eq
    rw [List.length_append] at hlen
    simp [truth]
    refine ⟨rest.length, by simpa using h3.symm, ?_⟩
    simp [semB]
    refine wp_draws (args := [.int (x :: rest).length]) (draws_draw n ns _ hns (by simp <;> omega)) rfl (by simp at h3; omega) ?_
    rintro _ t2 h5 ⟨r, rfl, r0, r1⟩
    have hp := place_in (n := (x :: rest).length) r0 r1
    have hlt : r.toNat < (x :: rest).length := by omega
    have hg := List.getElem?_eq_getElem hlt
    have b1 : -9223372036854775808 ≤ r := by omega
    have b2 : r < 9223372036854775808 := by omega
    have ca : ∀ y, cAppend y (.lst found) = some (.lst (found ++ [y])) := fun y => if_pos (by simp at hlen; omega)
    simp only [List.length_cons] at hp
    simp [hp, hg, b1, b2, ca]
    rw [hI]
    refine ⟨_, _, _, rfl, by simp at h3; omega, ?_, ?_⟩
    · rw [List.length_eraseIdx, if_pos hlt]; simp
    · refine List.Perm.trans ?_ h4
      rw [List.append_assoc]
      refine List.Perm.append_left _ ?_
      rw [List.singleton_append]
      exact erase_perm hlt
end
end Rf
end
section
set_option linter.all false
set_option maxRecDepth 100000
namespace Rf
open PySem
section
variable {P : Nat → Option Fn}
def kindsD : List D := [.str ⟨#[115, 105, 103, 110]⟩, .str ⟨#[115, 105, 103, 110]⟩, .str ⟨#[115, 105, 103, 110]⟩, .str ⟨#[102, 105, 114, 115, 116]⟩, .str ⟨#[119, 111, 114, 100]⟩, .str ⟨#[115, 105, 122, 101]⟩, .str ⟨#[117, 110, 108, 105, 107, 101]⟩, .str ⟨#[108, 111, 110, 103, 101, 115, 116]⟩, .str ⟨#[112, 108, 97, 99, 101]⟩, .str ⟨#[109, 111, 114, 101]⟩]
theorem sInB_two (k a b : Str) : sInB (.str k) (.tuple [.str a, .str b]) = some (decide (a = k) || decide (b = k)) := by
  unfold sInB
  have e : ∀ x y : Str, PyData.eqv (.str x) (.str y) = decide (x = y) := fun x y => by rw [PyData.eqv]; simp [BEq.beq]
  simp [PyData.plain, PyData.plainAll, PyData.depth, PyData.depthAll, depthLine, e]
theorem wordB_one {c : Nat} (h : lowB c = true) : wordB ⟨#[c]⟩ = true := by
  show (decide (1 ≤ 1) && decide (1 ≤ 9) && [c].all lowB) = true
  simp [h]
theorem sgnB_one {c : Nat} (h : lowB c = true) : sgnB ⟨#[c]⟩ = true := by
  unfold sgnB
  rw [wordB_one h]
  rfl
theorem draws_hole [At P 13 F_l_draw] [At P 14 F_l_pick] [At P 15 F_l_mixed] [At P 17 F_l_drawn_hole] (n : Nat) (ns : List Int) (ws : List Str) (many : Nat) (hns : ns.length ≤ 63) (hw : ws ≠ []) (hwb : ∀ w ∈ ws, wordB w = true) (hm : 0 < many) :
    Draws P (n + 3) 17 ns [.list (ws.map .str), .int many] 20 fun d => ∃ p : Piece, d = p.enc ∧ p.isSay = false ∧ p.okB many = true ∧ ∀ w t, (p = .word w t ∨ p = .place w t) → w ∈ ws := by
  intro ts hts
  have big := sizeLine_ge
  rw [run_at F_l_drawn_hole, runFn_fin rfl]
  simp [F_l_drawn_hole, startSl]
  refine wp_draws (args := [.list kindsD]) (draws_pick n ns kindsD hns (by simp [kindsD])) rfl (by omega) ?_
  intro kd t1 h1 hkd
  simp
  refine wp_draws (args := [.int many]) (draws_draw (n + 1) ns _ hns (by omega)) rfl (by omega) ?_
  rintro _ t2 h2 ⟨r, rfl, r0, r1⟩
  obtain ⟨t, rfl⟩ := Int.eq_ofNat_of_zero_le r0
  have ht : t < many := by omega
  have sgn : ∀ (t3 : List Int), t3.length ≤ t2.length + 2 → ∀ d ∈ sevens, ∃ c, d = .str ⟨#[c]⟩ ∧ lowB c = true := fun _ _ d hd => sevens_low hd
  have wrd : ∀ d ∈ ws.map PyData.str, ∃ w, d = .str w ∧ w ∈ ws ∧ wordB w = true := fun d hd => by
    obtain ⟨w, hw1, rfl⟩ := List.mem_map.mp hd
    exact ⟨w, rfl, hw1, hwb w hw1⟩
  have hwn : ws.map PyData.str ≠ [] := by simpa using hw
  simp only [kindsD, List.mem_cons, List.not_mem_nil, or_false, or_self_left] at hkd
  rcases hkd with rfl | rfl | rfl | rfl | rfl | rfl | rfl | rfl
  · simp [sInB_two]
    refine wp_draws (args := [.list sevens]) (draws_pick n ns sevens hns (by simp [sevens])) rfl (by omega) ?_
    intro d t3 h3 hd
    obtain ⟨c, rfl, hc⟩ := sevens_low hd
    simp
    exact fin_town rfl ⟨t3, rfl, by omega, .sign ⟨#[c]⟩ t, rfl, rfl, by simp [Piece.okB, sgnB_one hc, ht], fun w t z => by rcases z with z | z <;> cases z⟩
  · simp [sInB_two]
    refine wp_draws (args := [.list sevens]) (draws_pick n ns sevens hns (by simp [sevens])) rfl (by omega) ?_
    intro d t3 h3 hd
    obtain ⟨c, rfl, hc⟩ := sevens_low hd
    simp
    exact fin_town rfl ⟨t3, rfl, by omega, .first ⟨#[c]⟩ t, rfl, rfl, by simp [Piece.okB, sgnB_one hc, ht], fun w t z => by rcases z with z | z <;> cases z⟩
  · simp [sInB_two]
    refine wp_draws (args := [.list (ws.map .str)]) (draws_pick n ns _ hns hwn) rfl (by omega) ?_
    intro d t3 h3 hd
    obtain ⟨w, rfl, hw1, hw2⟩ := wrd d hd
    simp
    exact fin_town rfl ⟨t3, rfl, by omega, .word w t, rfl, rfl, by simp [Piece.okB, hw2, ht], fun w t z => by rcases z with z | z <;> cases z; exact hw1⟩
  · simp [sInB_two]
    exact fin_town rfl ⟨t2, rfl, by omega, .size t, rfl, rfl, by simp [Piece.okB, ht], fun w t z => by rcases z with z | z <;> cases z⟩
  · simp [sInB_two]
    exact fin_town rfl ⟨t2, rfl, by omega, .unlike t, rfl, rfl, by simp [Piece.okB, ht], fun w t z => by rcases z with z | z <;> cases z⟩
  · simp [sInB_two]
    exact fin_town rfl ⟨t2, rfl, by omega, .longest t, rfl, rfl, by simp [Piece.okB, ht], fun w t z => by rcases z with z | z <;> cases z⟩
  · simp [sInB_two]
    refine wp_draws (args := [.list (ws.map .str)]) (draws_pick n ns _ hns hwn) rfl (by omega) ?_
    intro d t3 h3 hd
    obtain ⟨w, rfl, hw1, hw2⟩ := wrd d hd
    simp
    exact fin_town rfl ⟨t3, rfl, by omega, .place w t, rfl, rfl, by simp [Piece.okB, hw2, ht], fun w t z => by rcases z with z | z <;> cases z; exact hw1⟩
  · simp [sInB_two]
    refine wp_draws (args := [.list sevens]) (draws_mixed n ns sevens hns (by simp [sevens])) rfl (by show _ + 14 ≤ _; omega) ?_
    rintro d t3 h3 ⟨ys, rfl, hp⟩
    have h3 : t3.length ≤ t2.length + 14 := h3
    have hl : ys.length = 7 := hp.length_eq
    obtain ⟨y0, y1, yr, rfl⟩ : ∃ y0 y1 yr, ys = y0 :: y1 :: yr := by
      match ys, hl with
      | y0 :: y1 :: yr, _ => exact ⟨_, _, _, rfl⟩
    obtain ⟨c0, rfl, hc0⟩ := sevens_low (hp.subset (List.mem_cons_self))
    obtain ⟨c1, rfl, hc1⟩ := sevens_low (hp.subset (List.mem_cons_of_mem _ List.mem_cons_self))
    have nd : sevens.Nodup := by simp [sevens]
    have nd2 := hp.symm.nodup nd
    have hne : c0 ≠ c1 := fun e => by subst e; simp at nd2
    simp
    exact fin_town rfl ⟨t3, rfl, by omega, .more ⟨#[c0]⟩ ⟨#[c1]⟩ t, rfl, rfl, by simp [Piece.okB, sgnB_one hc0, sgnB_one hc1, ht, hne], fun w t z => by rcases z with z | z <;> cases z⟩
end
end Rf
end
section
set_option linter.all false
set_option maxRecDepth 100000
namespace Rf
open PySem
theorem wp_fill {turn : D → Sl → R (D × D)} : ∀ {xs : List D} {xss : List (List D)} {sl : Sl} (I : Nat → List (List D) → Sl → Prop), (∀ k x xss sl, xs[k]? = some x → I k xss sl → (turn x sl).wp fun p sl' => ∃ (j : Int) (xss' : List (List D)), p.1 = .int j ∧ rowApp xss j p.2 = some xss' ∧ I (k + 1) xss' sl') → I 0 xss sl → ∃ xss' sl', rowsFill turn xs xss sl = some (xss', sl') ∧ I xs.length xss' sl'
  | [], xss, sl, I, _, h0 => ⟨xss, sl, rfl, h0⟩
  | x :: xs, xss, sl, I, h, h0 => by
    obtain ⟨⟨a, b⟩, s1, e, j, xss1, e1, e2, i1⟩ := R.wp_eq (h 0 x xss sl rfl h0)
    dsimp only at e1 e2
    subst e1
    obtain ⟨xss', s2, e3, i2⟩ := wp_fill (xs := xs) (fun i => I (i + 1)) (fun i y z s hy hi => h (i + 1) y z s (by simpa using hy) hi) i1
    refine ⟨xss', s2, ?_, i2⟩
    unfold rowsFill
    rw [e]
    dsimp only
    rw [e2]
    exact e3
theorem wp_walk {body : Sl → F} {v : Nat} {T : D → Sl → Prop} (hT : ∀ d sl, ¬ T d sl) {whole : List (List D)} (J : List (List D) → Sl → Prop) (h : ∀ xs done sl, whole[done.length]? = some xs → J done sl → (body (sl.set v (some (.cell false (.lst xs))))).wp (fun sl' => ∃ ys, sl'[v]? = some (some (.cell false (.lst ys))) ∧ J (done ++ [ys]) (sl'.set v none)) T) : ∀ {xss done : List (List D)} {sl : Sl}, whole.drop done.length = xss → J done sl → ∃ yss sl', rowsWalk body v xss done sl = some (yss, sl') ∧ J yss sl' ∧ yss.length = done.length + xss.length
  | [], done, sl, _, h0 => ⟨done, sl, rfl, h0, rfl⟩
  | xs :: xss, done, sl, hd, h0 => by
    have hg : whole[done.length]? = some xs := by
      have : (whole.drop done.length)[0]? = some xs := by rw [hd]; rfl
      simpa using this
    have h1 := h xs done sl hg h0
    have hd2 : ∀ ys, whole.drop (done ++ [ys]).length = xss := fun ys => by
      have : (whole.drop done.length).drop 1 = xss := by rw [hd]; rfl
      rw [List.drop_drop] at this
      simpa using this
    unfold rowsWalk
    revert h1
    cases body (sl.set v (some (.cell false (.lst xs)))) with
    | nx s1 =>
      rintro ⟨ys, e, j⟩
      obtain ⟨yss, s2, e2, j2, l2⟩ := wp_walk hT J h (hd2 ys) j
      refine ⟨yss, s2, ?_, j2, by rw [l2]; simp; omega⟩
      dsimp only
      rw [e]
      exact e2
    | ret d s => exact fun z => (hT d s z).elim
    | brk s => exact fun z => z.elim
    | exc c s => exact fun z => z.elim
    | stuck => exact fun z => z.elim
theorem wp_rows {Γ : Nat → List X → CR} {i w v : Nat} {n k e : L} {t : T} {it : I} {body : Ss} {sl : Sl} {N : Sl → Prop} {T : D → Sl → Prop}
    (h : (evalE Γ n sl).wp fun x sl => ∃ m : Int, x = .int m ∧ smallI m = true ∧ m ≤ 1000 ∧ noPins sl = true ∧ [i, w, v].all (isData sl) = true ∧ i < sl.length ∧ v < sl.length ∧ i ≠ v ∧
      (evalI Γ it ((sl.set i (some .pin)).set v none)).wp fun xs sl1 => ∃ I : Nat → List (List D) → Sl → Prop,
        (∀ k1 x xss sl, xs[k1]? = some x → I k1 xss sl → ∃ s1, assignT t x sl = some s1 ∧ pinned s1 i = true ∧ (evalE Γ k s1).wp fun y s2 => (evalE Γ e s2).wp fun z s3 => ∃ (j : Int) (xss' : List (List D)), y = .int j ∧ rowApp xss j z = some xss' ∧ I (k1 + 1) xss' s3) ∧
        I 0 (List.replicate m.toNat []) sl1 ∧
        ∀ xss sl2, I xs.length xss sl2 → isData sl2 v = true ∧ pinned sl2 i = true ∧ v < sl2.length ∧ ∃ J : List (List D) → Sl → Prop,
          (∀ ys done s, xss[done.length]? = some ys → J done s → (evalSs Γ body (s.set v (some (.cell false (.lst ys))))).wp (fun s' => ∃ zs, s'[v]? = some (some (.cell false (.lst zs))) ∧ J (done ++ [zs]) (s'.set v none)) (fun _ _ => False)) ∧
          J [] sl2 ∧ ∀ yss sl3, yss.length = xss.length → J yss sl3 → pinned sl3 i = true ∧ noPins (sl3.set i none) = true ∧ N (sl3.set i (some (.d (.list (yss.map .list)))))) :
    (evalS Γ (.rows i w n t it k e v body) sl).wp N T := by
  obtain ⟨_, s0, e0, m, rfl, hs, hm, hp, hd, hi, hv, hne, h2⟩ := R.wp_eq h
  obtain ⟨xs, s1, e1, I, hI, hI0, h3⟩ := R.wp_eq h2
  obtain ⟨xss, s2, e2, i2⟩ := wp_fill (turn := fun x sl => match assignT t x sl with
          | none => .stuck
          | some sl => if pinned sl i then (evalE Γ k sl).bind fun y sl => (evalE Γ e sl).bind fun z sl => .ok (y, z) sl else .stuck) (xs := xs) I (fun k1 x xss sl hx hi => by
    obtain ⟨s, q1, q2, q3⟩ := hI k1 x xss sl hx hi
    rw [q1]
    dsimp only
    rw [if_pos q2]
    show (R.bnd (evalE Γ k s) fun y sl => R.bnd (evalE Γ e sl) fun z sl => R.ok (y, z) sl).wp _
    simp only [R.wp_bnd]
    refine R.wp_mono q3 fun y s2 q4 => ?_
    rw [R.wp_bnd]
    exact R.wp_mono q4 fun z s3 q5 => q5) hI0
  obtain ⟨d2, p2, l2, J, hJ, hJ0, h4⟩ := h3 xss s2 i2
  obtain ⟨yss, s3, e3, j3, l3⟩ := wp_walk (v := v) (T := fun _ _ => False) (whole := xss) (fun _ _ => id) J hJ (xss := xss) (done := []) rfl hJ0
  obtain ⟨p3, np3, fin3⟩ := h4 yss s3 (by simpa using l3) j3
  have key : evalS Γ (.rows i w n t it k e v body) sl = .nx (s3.set i (some (.d (.list (yss.map .list))))) := by
    simp only [evalS]
    rw [e0, R.run_ok]
    dsimp only
    rw [if_pos (by simp [hs, hm, hp, hi, hv, hne]; simpa using hd), e1]
    dsimp only
    erw [e2]
    dsimp only
    rw [if_pos (by simp [d2, p2, l2]), e3]
    dsimp only
    rw [if_pos (by simp [p3, np3])]
  rw [key]
  exact fin3
end Rf
end
section
set_option linter.all false
set_option maxRecDepth 100000
namespace Rf
open PySem
section
variable {P : Nat → Option Fn}
structure DOk (S : Sys) (most holes : Nat) : Prop where
  n1 : 1 ≤ S.nums.length
  n2 : S.nums.length ≤ most
  nd : S.nums.Nodup
  nw : ∀ w ∈ S.nums, wordB w = true
  f1 : 1 ≤ S.forms.length
  f2 : S.forms.length ≤ 2
  fl : ∀ f ∈ S.forms, 1 ≤ f.length ∧ f.length ≤ holes + 3
  fp : ∀ f ∈ S.forms, ∀ p ∈ f, p.okB S.forms.length = true
  h1 : 1 ≤ S.holes.length
  h2 : S.holes.length ≤ holes
theorem str_plain (w : Str) : (PyData.str w).plain = true := by rw [PyData.plain]
theorem plainAll_of : ∀ {xs : List D}, (∀ x ∈ xs, x.plain = true) → PyData.plainAll xs = true
  | [], _ => by rw [PyData.plainAll]
  | x :: xs, h => by
    rw [PyData.plainAll, h x List.mem_cons_self, plainAll_of fun y hy => h y (List.mem_cons_of_mem _ hy)]
    rfl
theorem eqv_str (x y : Str) : PyData.eqv (.str x) (.str y) = decide (x = y) := by
  rw [PyData.eqv]; simp [BEq.beq]
theorem sInB_strs (w : Str) (ws : List Str) : sInB (.str w) (.list (ws.map .str)) = some (decide (w ∈ ws)) := by
  unfold sInB
  have h1 : PyData.plainAll (ws.map .str) = true := plainAll_of fun x hx => by
    obtain ⟨y, _, rfl⟩ := List.mem_map.mp hx
    exact str_plain y
  have h2 : min (PyData.depthAll (ws.map .str)) (PyData.depth (.str w)) ≤ depthLine := by
    have : PyData.depth (.str w) = 0 := by rw [PyData.depth]
    rw [this]; simp
  dsimp only
  rw [if_pos (by rw [str_plain, h1, decide_eq_true h2]; rfl)]
  congr 1
  rw [List.any_map]
  simp only [Function.comp_def, eqv_str]
  rw [Bool.eq_iff_iff]
  simp
theorem piece_plain (p : Piece) : p.enc.plain = true := by
  cases p <;> simp [Piece.enc, PyData.plain, PyData.plainAll]
theorem piece_depth (p : Piece) : p.enc.depth ≤ 1 := by
  cases p <;> simp [Piece.enc, PyData.depth, PyData.depthAll]
theorem sEqB_nil {ps : List Piece} : sEqB (.list (ps.map Piece.enc)) (.list []) = some ps.isEmpty := by
  unfold sEqB
  have h1 : PyData.plain (.list (ps.map Piece.enc)) = true := by
    rw [PyData.plain]
    exact plainAll_of fun x hx => by
      obtain ⟨y, _, rfl⟩ := List.mem_map.mp hx
      exact piece_plain y
  have h2 : PyData.plain (.list []) = true := by simp [PyData.plain, PyData.plainAll]
  have h3 : min (PyData.depth (.list (ps.map Piece.enc))) (PyData.depth (.list [])) ≤ depthLine := by
    have : PyData.depth (.list []) ≤ 1 := by simp [PyData.depth, PyData.depthAll]
    have : (1 : Nat) ≤ depthLine := by decide
    omega
  rw [if_pos (by rw [h1, h2, decide_eq_true h3]; rfl)]
  cases ps <;> simp [PyData.eqv, PyData.eqvAll]
end
end Rf
end
section
set_option linter.all false
set_option maxRecDepth 100000
namespace Rf
open PySem
section
variable {P : Nat → Option Fn}
theorem filter_grow {nums : List Str} {w w' : Str} (hm : w ∈ nums) (hl : w'.length = w.length + 1) : (nums.filter fun x => decide (w'.length ≤ x.length)).length < (nums.filter fun x => decide (w.length ≤ x.length)).length := by
  induction nums with
  | nil => cases hm
  | cons x xs ih =>
    rw [List.filter_cons, List.filter_cons]
    rcases List.mem_cons.mp hm with rfl | hm
    · have h1 : ¬ (w'.length ≤ w.length) := by omega
      have : (xs.filter fun x => decide (w'.length ≤ x.length)).length ≤ (xs.filter fun x => decide (w.length ≤ x.length)).length := by
        clear hm ih
        induction xs with
        | nil => exact Nat.le_refl _
        | cons y ys ih2 =>
          rw [List.filter_cons, List.filter_cons]
          by_cases h2 : w'.length ≤ y.length
          · have h3 : w.length ≤ y.length := by omega
            simp [h2, h3]; simpa using ih2
          · by_cases h3 : w.length ≤ y.length
            · simp [h2, h3]; have := ih2; (try simp at this); omega
            · simp [h2, h3]; simpa using ih2
      simp [h1] at this ⊢
      omega
    · have := ih hm
      by_cases h2 : w'.length ≤ x.length
      · have h3 : w.length ≤ x.length := by omega
        simp [h2, h3]; simpa using this
      · by_cases h3 : w.length ≤ x.length
        · simp [h2, h3]; (try simp at this); omega
        · simp [h2, h3]; simpa using this
theorem sum_put {α : Type} (p : α) : ∀ {fs : List (List α)} {j : Nat} (h : j < fs.length), ((fs.set j (fs[j] ++ [p])).map List.length).sum = (fs.map List.length).sum + 1
  | f :: fs, 0, _ => by simp; omega
  | f :: fs, j + 1, h => by
    have := sum_put p (fs := fs) (j := j) (by simpa using h)
    simp at this ⊢
    omega
theorem len_le_sum {α : Type} : ∀ {fs : List (List α)} {f : List α}, f ∈ fs → f.length ≤ (fs.map List.length).sum
  | g :: fs, f, h => by
    rw [List.map_cons, List.sum_cons]
    rcases List.mem_cons.mp h with rfl | h
    · omega
    · have := len_le_sum h; omega
theorem wordB_of {w : Str} (h1 : 1 ≤ w.length) (h2 : w.length ≤ 9) (h : lowW w) : wordB w = true := by
  unfold wordB
  rw [show w.cps.toList.all lowB = true from h]
  simp [h1, h2]
def noAs : List Str := [⟨#[110, 111]⟩, ⟨#[97, 115]⟩]
theorem draws_system [At P 13 F_l_draw] [At P 14 F_l_pick] [At P 15 F_l_mixed] [At P 16 F_l_drawn_word] [At P 17 F_l_drawn_hole] [At P 18 F_l_drawn_system] (n : Nat) (ns : List Int) (most holes : Nat) (hns : ns.length ≤ 63) (hm : 0 < most) (hm2 : most ≤ 5) (hh : 0 < holes) (hh2 : holes ≤ 6) :
    Draws P (n + 4) 18 ns [.int most, .int holes] 400 fun d => ∃ S : Sys, d = S.enc ∧ DOk S most holes := by
  intro ts hts
  have big := sizeLine_ge
  rw [run_at F_l_drawn_system, runFn_fin rfl]
  simp [F_l_drawn_system, startSl]
  refine wp_draws (args := [.int most]) (draws_draw (n + 2) ns _ hns (by omega)) rfl (by omega) ?_
  rintro _ t1 h1 ⟨r, rfl, r0, r1⟩
  have sm : smallI (1 + r) = true := by unfold smallI; simp; omega
  simp [sm]
  -- the numerals
  obtain ⟨I, hI⟩ : ∃ I : Nat → Sl → Prop, I = fun k sl => ∃ (ts' : List Int) (nums : List Str) (x5 x9 : Option D), sl = [some (.d (scr ns)), some (.cell false (town ts')), some (.d (.int most)), some (.d (.int holes)), some (.cell true (.lst (nums.map .str))), x5.map .d, none, none, none, x9.map .d] ∧ ts'.length ≤ t1.length + 12 * k ∧ nums.length = k ∧ nums.Nodup ∧ ∀ w ∈ nums, lowW w ∧ 1 ≤ w.length ∧ w.length ≤ 9 := ⟨_, rfl⟩
  refine wp_for I ?_ (by rw [hI]; exact ⟨t1, [], none, none, rfl, by omega, rfl, List.nodup_nil, fun w z => by cases z⟩) ?_
  · intro k x sl hx hs
    rw [hI] at hs
    obtain ⟨ts', nums, x5, x9, rfl, h2, h3, h4, h5⟩ := hs
    obtain ⟨hk, rfl⟩ := range_get hx
    simp
    refine wp_draws (args := [.int (4 : Nat)]) (draws_word n ns 4 hns (by omega) (by omega)) rfl (by omega) ?_
    rintro _ t2 h6 ⟨w, rfl, w1, w2, w3⟩
    simp
    obtain ⟨J, hJ⟩ : ∃ J : Nat → Sl → Prop, J = fun m sl => ∃ w : Str, sl = [some (.d (scr ns)), some (.cell false (town t2)), some (.d (.int most)), some (.d (.int holes)), some (.cell true (.lst (nums.map .str))), some (.d (.int k)), none, none, none, some (.d (.str w))] ∧ lowW w ∧ 1 ≤ w.length ∧ w.length + m ≤ 4 + k ∧ (nums.filter fun x => decide (w.length ≤ x.length)).length ≤ m := ⟨_, rfl⟩
    refine wp_while J (fun m sl hs => ?_) fuel k _ (by rw [hJ]; exact ⟨w, rfl, w3, w1, by omega, by rw [← h3]; exact List.length_filter_le _ _⟩) (by show k < 1000000000; omega)
    rw [hJ] at hs
    obtain ⟨w, rfl, q1, q2, q3, q4⟩ := hs
    by_cases hw : w ∈ nums
    · have hpos : 0 < (nums.filter fun x => decide (w.length ≤ x.length)).length := List.length_pos_of_mem (List.mem_filter.mpr ⟨hw, by simp⟩)
      have hl := str_app_len w 122
      have ha : sAdd (.str w) (.str ⟨#[122]⟩) = some (.str (w ++ ⟨#[122]⟩)) := sAdd_str (by show w.length + 1 ≤ _; omega)
      simp [sInB_strs, hw, oB]
      refine ⟨m - 1, by omega, ?_⟩
      simp [ha]
      rw [hJ]
      have := filter_grow hw hl
      exact ⟨_, rfl, lowW_app q1 (by decide), by omega, by omega, by omega⟩
    · have ca : cAppend (.str w) (.lst (nums.map .str)) = some (.lst (nums.map .str ++ [.str w])) := if_pos (by simp; omega)
      simp [sInB_strs, hw, oB, ca]
      rw [hI]
      refine ⟨t2, nums ++ [w], some (.int k), some (.str w), by simp, by omega, by simp [h3], ?_, ?_⟩
      · rw [List.nodup_append]
        exact ⟨h4, by simp, fun a ha b hb => by rw [List.mem_singleton.mp hb]; exact fun e => hw (e ▸ ha)⟩
      · intro y hy
        rcases List.mem_append.mp hy with hy | hy
        · exact h5 y hy
        · rw [List.mem_singleton.mp hy]; exact ⟨q1, q2, by omega⟩
  · intro sl hs
    rw [hI] at hs
    obtain ⟨t2, nums, x5, x9, rfl, h2, h3, h4, h5⟩ := hs
    rw [range_len] at h2 h3
    have hmost : nums.length ≤ most := by omega
    have hnum1 : 1 ≤ nums.length := by omega
    clear hI I
    simp
    refine wp_draws (args := [.int 2]) (draws_draw (n + 2) ns 2 hns (by omega)) rfl (by omega) ?_
    rintro _ t3 h6 ⟨q, rfl, q0, q1⟩
    simp
    obtain ⟨m, hm3⟩ : ∃ m : Nat, 1 + q = (m : Int) := ⟨(1 + q).toNat, by omega⟩
    refine wp_rows ?_
    have sm2 : smallI m = true := by unfold smallI; simp; omega
    simp [hm3, sm2]
    refine ⟨by omega, by cases x5 <;> cases x9 <;> rfl, by cases x5 <;> rfl, ?_⟩
    refine wp_draws (args := [.int holes]) (draws_draw (n + 2) ns holes hns (by omega)) rfl (by omega) ?_
    rintro _ t4 h7 ⟨p, rfl, p0, p1⟩
    have sm3 : smallI (1 + p) = true := by unfold smallI; simp; omega
    simp [sm3]
    obtain ⟨I, hI⟩ : ∃ I : Nat → List (List D) → Sl → Prop, I = fun k xss sl => ∃ (ts' : List Int) (x5 x9 : Option D) (fs : List (List Piece)), sl = [some (.d (scr ns)), some (.cell false (town ts')), some (.d (.int most)), some (.d (.int holes)), some (.cell true (.lst (nums.map .str))), x5.map .d, some (.d (.int m)), some .pin, none, x9.map .d] ∧ ts'.length ≤ t4.length + 22 * k ∧ xss = fs.map (·.map Piece.enc) ∧ fs.length = m ∧ (fs.map List.length).sum = k ∧ ∀ f ∈ fs, ∀ p ∈ f, p.isSay = false ∧ p.okB m = true := ⟨_, rfl⟩
    refine ⟨I, ?_, by rw [hI]; exact ⟨t4, x5, x9, List.replicate m [], rfl, by omega, by simp, by simp, by simp, fun f hf => by rw [List.eq_of_mem_replicate hf]; intro p hp; cases hp⟩, ?_⟩
    · intro k1 x xss sl hx hs
      rw [hI] at hs
      obtain ⟨t5, x5, x9, fs, rfl, g1, rfl, g3, g4, g5⟩ := hs
      obtain ⟨hk, rfl⟩ := range_get hx
      have haN : sAdd (.list (nums.map .str)) (.list [.str ⟨#[110, 111]⟩, .str ⟨#[97, 115]⟩]) = some (.list (nums.map .str ++ [.str ⟨#[110, 111]⟩, .str ⟨#[97, 115]⟩])) := sAdd_lst (by simp; omega)
      have heN : nums.map PyData.str ++ [.str ⟨#[110, 111]⟩, .str ⟨#[97, 115]⟩] = (nums ++ noAs).map .str := by simp [noAs]
      simp
      refine ⟨rfl, ?_⟩
      refine wp_draws (args := [.int m]) (draws_draw (n + 2) ns m hns (by omega)) rfl (by omega) ?_
      rintro _ t6 h8 ⟨j, rfl, j0, j1⟩
      simp [haN]
      rw [heN]
      refine wp_draws (args := [.list ((nums ++ noAs).map .str), .int m]) (draws_hole n ns (nums ++ noAs) m hns (by simp [noAs]) (fun w hw => ?_) (by omega)) rfl (by omega) ?_
      · rcases List.mem_append.mp hw with hw | hw
        · obtain ⟨z1, z2, z3⟩ := h5 w hw
          exact wordB_of z2 z3 z1
        · simp [noAs] at hw
          rcases hw with rfl | rfl <;> decide
      · rintro _ t7 h9 ⟨pc, rfl, pc1, pc2, _⟩
        have jl : j.toNat < fs.length := by omega
        have hrow : rowApp (fs.map (·.map Piece.enc)) j pc.enc = some ((fs.set j.toNat (fs[j.toNat] ++ [pc])).map (·.map Piece.enc)) := by
          unfold rowApp
          rw [List.length_map, place_in j0 (by omega), Option.bind_some, List.getElem?_map, List.getElem?_eq_getElem jl, Option.map_some, Option.bind_some]
          have := len_le_sum (List.getElem_mem jl)
          rw [if_pos (by rw [List.length_map]; omega), List.map_set]
          simp
        refine ⟨j, _, rfl, hrow, ?_⟩
        rw [hI]
        refine ⟨t7, some (.int k1), x9, _, by simp, by omega, rfl, by simpa using g3, ?_, ?_⟩
        · rw [sum_put pc jl, g4]
        · intro f hf p hp
          rcases List.mem_or_eq_of_mem_set hf with hf | rfl
          · exact g5 f hf p hp
          · rcases List.mem_append.mp hp with hp | hp
            · exact g5 _ (List.getElem_mem jl) p hp
            · rw [List.mem_singleton.mp hp]; exact ⟨pc1, pc2⟩
    · intro xss sl2 hs
      rw [hI] at hs
      obtain ⟨t5, x5, x9, fs, rfl, g1, rfl, g3, g4, g5⟩ := hs
      rw [range_len] at g1 g4
      clear hI I
      refine ⟨rfl, rfl, by simp, ?_⟩
      obtain ⟨J, hJ⟩ : ∃ J : List (List D) → Sl → Prop, J = fun done sl => ∃ (ts' : List Int) (x5 x9 : Option D) (gs : List (List Piece)), sl = [some (.d (scr ns)), some (.cell false (town ts')), some (.d (.int most)), some (.d (.int holes)), some (.cell true (.lst (nums.map .str))), x5.map .d, some (.d (.int m)), some .pin, none, x9.map .d] ∧ done = gs.map (·.map Piece.enc) ∧ ts'.length ≤ t5.length + 50 * gs.length ∧ (gs.map fun g => (g.filter (!·.isSay)).length) = (fs.take gs.length).map List.length ∧ ∀ g ∈ gs, 1 ≤ g.length ∧ g.length ≤ holes + 3 ∧ ∀ p ∈ g, p.okB m = true := ⟨_, rfl⟩
      refine ⟨J, ?_, by rw [hJ]; exact ⟨t5, x5, x9, [], rfl, rfl, by simp, by simp, fun g hg => by cases hg⟩, ?_⟩
      · intro ys done s hy hs
        rw [hJ] at hs
        obtain ⟨t6, x5, x9, gs, rfl, rfl, k1, k2, k3⟩ := hs
        rw [List.length_map, List.getElem?_map] at hy
        obtain ⟨f, hf, rfl⟩ := Option.map_eq_some_iff.mp hy
        have hfm := List.mem_of_getElem? hf
        have hfl := len_le_sum hfm
        have hgl : gs.length < fs.length := (List.getElem?_eq_some_iff.mp hf).1
        simp
        refine wp_draws (args := [.int 3]) (draws_draw (n + 2) ns 3 hns (by omega)) rfl (by omega) ?_
        rintro _ t7 h8 ⟨u, rfl, u0, u1⟩
        obtain ⟨e, he, e0, e1, e2⟩ : ∃ e : Int, bInt [.bool f.isEmpty] = some (.int e) ∧ 0 ≤ e ∧ e ≤ 1 ∧ (f.length = 0 → e = 1) := by
          cases f with
          | nil => exact ⟨1, rfl, by omega, by omega, fun _ => rfl⟩
          | cons x r => exact ⟨0, rfl, by omega, by omega, fun z => by simp at z⟩
        have sm4 : smallI (u + e) = true := by unfold smallI; simp; omega
        simp [sEqB_nil, oB, semB, he, sm4]
        obtain ⟨K, hK⟩ : ∃ K : Nat → Sl → Prop, K = fun k sl => ∃ (ts' : List Int) (x5 : Option D) (zs : List Piece), sl = [some (.d (scr ns)), some (.cell false (town ts')), some (.d (.int most)), some (.d (.int holes)), some (.cell true (.lst (nums.map .str))), x5.map .d, some (.d (.int m)), some .pin, some (.cell false (.lst (zs.map Piece.enc))), x9.map .d] ∧ ts'.length ≤ t7.length + 14 * k ∧ zs.length = f.length + k ∧ (zs.filter (!·.isSay)).length = f.length ∧ ∀ p ∈ zs, p.okB m = true := ⟨_, rfl⟩
        refine wp_for K ?_ (by
          rw [hK]
          refine ⟨t7, x5, f, rfl, by omega, by omega, ?_, fun p hp => (g5 f hfm p hp).2⟩
          rw [List.filter_eq_self.mpr fun p hp => by rw [(g5 f hfm p hp).1]; rfl]) ?_
        · intro k x sl hx hs
          rw [hK] at hs
          obtain ⟨t8, x5, zs, rfl, q1, q2, q3, q4⟩ := hs
          obtain ⟨hk, rfl⟩ := range_get hx
          simp [semB]
          refine wp_draws (args := [.int (zs.length + 1)]) (draws_draw (n + 2) ns _ hns (by omega)) rfl (by omega) ?_
          rintro _ t9 h9 ⟨j, rfl, j0, j1⟩
          simp
          refine wp_draws (args := [.int (3 : Nat)]) (draws_word n ns 3 hns (by omega) (by omega)) rfl (by omega) ?_
          rintro _ t10 h10 ⟨w, rfl, w1, w2, w3⟩
          have ci : cInsert j (.tuple [.str ⟨#[115, 97, 121]⟩, .str w]) (.lst (zs.map Piece.enc)) = some (.lst ((zs.take j.toNat ++ [Piece.say w] ++ zs.drop j.toNat).map Piece.enc)) := by
            unfold cInsert
            dsimp only
            rw [if_pos (by simp; omega)]
            simp [Piece.enc, List.map_take, List.map_drop]
          simp [ci]
          rw [hK]
          have tl : (zs.take j.toNat).length + (zs.drop j.toNat).length = zs.length := by rw [← List.length_append, List.take_append_drop]
          have fl : ((zs.take j.toNat).filter (!·.isSay)).length + ((zs.drop j.toNat).filter (!·.isSay)).length = (zs.filter (!·.isSay)).length := by rw [← List.length_append, ← List.filter_append, List.take_append_drop]
          refine ⟨t10, some (.int k), zs.take j.toNat ++ [Piece.say w] ++ zs.drop j.toNat, by simp, by omega, ?_, ?_, ?_⟩
          · rw [List.length_append, List.length_append, List.length_singleton]; omega
          · rw [List.filter_append, List.filter_append, List.length_append, List.length_append]
            have : ([Piece.say w].filter (!·.isSay)).length = 0 := by simp [Piece.isSay]
            omega
          · intro p hp
            rcases List.mem_append.mp hp with hp | hp
            · rcases List.mem_append.mp hp with hp | hp
              · exact q4 p (List.mem_of_mem_take hp)
              · rw [List.mem_singleton.mp hp]; exact wordB_of w1 (by omega) w3
            · exact q4 p (List.mem_of_mem_drop hp)
        · intro sl hs
          rw [hK] at hs
          obtain ⟨t8, x5, zs, rfl, q1, q2, q3, q4⟩ := hs
          rw [range_len] at q1 q2
          refine ⟨_, rfl, ?_⟩
          rw [hJ]
          refine ⟨t8, x5, x9, gs ++ [zs], by simp, by simp, by rw [List.length_append, List.length_singleton]; omega, ?_, ?_⟩
          · rw [List.map_append, k2, List.length_append, List.length_singleton, List.take_add_one, hf]
            simp [q3]
          · intro g hg
            rcases List.mem_append.mp hg with hg | hg
            · exact k3 g hg
            · rw [List.mem_singleton.mp hg]; exact ⟨by omega, by omega, q4⟩
      · intro yss sl3 hl hs
        rw [hJ] at hs
        obtain ⟨t6, x5, x9, gs, rfl, rfl, k1, k2, k3⟩ := hs
        rw [List.length_map, List.length_map] at hl
        refine ⟨rfl, by cases x5 <;> cases x9 <;> rfl, ?_⟩
        have hc : ∀ S1 : Sl, S1 = [some (.d (scr ns)), some (.cell false (town t6)), some (.d (.int most)), some (.d (.int holes)), some (.cell true (.lst (nums.map .str))), x5.map .d, some (.d (.int m)), some (.d (.list (gs.map (PyData.list ∘ fun x => List.map Piece.enc x)))), none, x9.map .d] → evalE (run P (n + 3)) ((L.bi Bi.tuple (As.cons (Z.ref 8) As.nil)).comp (T.nm 8) (Rf.I.seq (L.var 7)) Ol.none [8]) S1 = .ok (.list (gs.map fun g => .tuple (g.map Piece.enc))) S1 := by
          rintro S1 rfl
          exact evE_compM gs (fun g => .list (g.map Piece.enc)) (fun g => .tuple (g.map Piece.enc)) (by simp) (by simp) (by simp) (by omega) fun y hy => ⟨_, by simp [turnW, semB, bTuple]; rfl, by simp⟩
        simp [semB, bTuple]
        rw [hc _ rfl]
        simp [semB, bTuple]
        have hgm : gs.length = m := by omega
        have hh3 : (⟨nums, gs⟩ : Sys).holes.length = (1 + p).toNat := by
          show (gs.flatMap fun f => f.filter (!·.isSay)).length = _
          rw [List.length_flatMap, k2, hgm, ← g3, List.take_length, g4]
        refine fin_town rfl ⟨t6, rfl, by omega, ⟨nums, gs⟩, by simp [Sys.enc], ?_⟩
        exact { n1 := hnum1, n2 := hmost, nd := h4, nw := fun w hw => wordB_of (h5 w hw).2.1 (h5 w hw).2.2 (h5 w hw).1, f1 := by show 1 ≤ gs.length; omega, f2 := by show gs.length ≤ 2; omega, fl := fun f hf => ⟨(k3 f hf).1, (k3 f hf).2.1⟩, fp := fun f hf p hp => by show p.okB gs.length = true; rw [hgm]; exact (k3 f hf).2.2 p hp, h1 := by omega, h2 := by omega }
end
end Rf
end
section
set_option linter.all false
set_option maxRecDepth 100000
namespace Rf
open PySem
/-- plain, and no deeper than k -/
structure Gud (k : Nat) (d : D) : Prop where
  pl : d.plain = true
  dp : d.depth ≤ k
theorem depthAll_le {k : Nat} : ∀ {xs : List D}, (∀ x ∈ xs, x.depth ≤ k) → PyData.depthAll xs ≤ k
  | [], _ => by rw [PyData.depthAll]; exact Nat.zero_le _
  | x :: xs, h => by
    rw [PyData.depthAll]
    exact Nat.max_le.mpr ⟨h x List.mem_cons_self, depthAll_le fun y hy => h y (List.mem_cons_of_mem _ hy)⟩
theorem depth_le_all : ∀ {xs : List D} {x : D}, x ∈ xs → x.depth ≤ PyData.depthAll xs
  | y :: ys, x, h => by
    rw [PyData.depthAll]
    rcases List.mem_cons.mp h with rfl | h
    · exact Nat.le_max_left _ _
    · exact Nat.le_trans (depth_le_all h) (Nat.le_max_right _ _)
theorem Gud.mono {k l : Nat} {d : D} (h : Gud k d) (hl : k ≤ l) : Gud l d := ⟨h.pl, Nat.le_trans h.dp hl⟩
theorem good_tup {k : Nat} {xs : List D} (h : ∀ x ∈ xs, Gud k x) : Gud (k + 1) (.tuple xs) := by
  refine ⟨by rw [PyData.plain]; exact plainAll_of fun x hx => (h x hx).pl, ?_⟩
  have := depthAll_le fun x hx => (h x hx).dp
  rw [PyData.depth]; omega
theorem good_lst {k : Nat} {xs : List D} (h : ∀ x ∈ xs, Gud k x) : Gud (k + 1) (.list xs) := by
  refine ⟨by rw [PyData.plain]; exact plainAll_of fun x hx => (h x hx).pl, ?_⟩
  have := depthAll_le fun x hx => (h x hx).dp
  rw [PyData.depth]; omega
theorem good_of_tup {k : Nat} {xs : List D} (h : Gud (k + 1) (.tuple xs)) : ∀ x ∈ xs, Gud k x := fun x hx => by
  refine ⟨plain_tup h.pl x hx, ?_⟩
  have h1 := depth_le_all hx
  have h2 := h.dp
  rw [PyData.depth] at h2
  omega
theorem good_none (k : Nat) : Gud k .none := ⟨by rw [PyData.plain], by rw [PyData.depth]; omega⟩
theorem good_bool (k : Nat) (b : Bool) : Gud k (.bool b) := ⟨by rw [PyData.plain], by rw [PyData.depth]; omega⟩
theorem good_int (k : Nat) (i : Int) : Gud k (.int i) := ⟨by rw [PyData.plain], by rw [PyData.depth]; omega⟩
theorem good_str (k : Nat) (x : Str) : Gud k (.str x) := ⟨by rw [PyData.plain], by rw [PyData.depth]; omega⟩
theorem good_cons {k : Nat} {x : D} {xs : List D} (h : Gud k x) (hs : ∀ y ∈ xs, Gud k y) : ∀ y ∈ x :: xs, Gud k y := fun y hy => by
  rcases List.mem_cons.mp hy with rfl | hy
  · exact h
  · exact hs y hy
theorem good_nil {k : Nat} : ∀ y ∈ ([] : List D), Gud k y := fun y hy => by cases hy
theorem good_app {k : Nat} {xs ys : List D} (h : ∀ y ∈ xs, Gud k y) (hs : ∀ y ∈ ys, Gud k y) : ∀ y ∈ xs ++ ys, Gud k y := fun y hy => by
  rcases List.mem_append.mp hy with hy | hy
  · exact h y hy
  · exact hs y hy
theorem cut_sub {α : Type} {xs : List α} {lo hi : Option Int} : ∀ y ∈ cut xs lo hi, y ∈ xs := fun y hy => List.mem_of_mem_drop (List.mem_of_mem_take hy)
theorem cut_len {α : Type} {xs : List α} {lo hi : Option Int} : (cut xs lo hi).length ≤ xs.length := by
  unfold cut
  rw [List.length_take, List.length_drop]
  omega
theorem good_cut {k : Nat} {xs : List D} {lo hi : Option Int} (h : ∀ y ∈ xs, Gud k y) : ∀ y ∈ cut xs lo hi, Gud k y := fun y hy => h y (cut_sub y hy)
/-- small things: texts, small ints, tuples of them -/
def Sm : Nat → D → Prop
  | _, .str _ => True
  | _, .int i => 0 ≤ i ∧ i ≤ 20
  | k + 1, .tuple xs => xs.length ≤ 100 ∧ ∀ x ∈ xs, Sm k x
  | _, _ => False
theorem sm_good : ∀ {k : Nat} {d : D}, Sm k d → Gud k d
  | k, .str x, _ => good_str k x
  | k, .int i, _ => good_int k i
  | k + 1, .tuple xs, h => good_tup fun x hx => sm_good (h.2 x hx)
  | 0, .tuple xs, h => by cases h
  | k, .none, h => by cases k <;> cases h
  | k, .bool b, h => by cases k <;> cases h
  | k, .list xs, h => by cases k <;> cases h
  | k, .dict kvs, h => by cases k <;> cases h
end Rf
end
section
set_option linter.all false
set_option maxRecDepth 100000
namespace Rf
open PySem
section
variable {P : Nat → Option Fn}
theorem bStr_small {i : Int} (h0 : 0 ≤ i) (h1 : i ≤ 20) : ∃ s : Str, bStr [.int i] = some (.str s) := by
  have key : ∀ n : Fin 21, ((fun i : Int => decide (i.natAbs.log2 < 1920 ∧ (Str.ofString (toString i)).length ≤ sizeLine)) ((n.val : Nat) : Int)) = true := by decide +kernel
  have h := key ⟨i.toNat, by omega⟩
  dsimp only at h
  rw [show ((i.toNat : Nat) : Int) = i by omega] at h
  exact ⟨_, if_pos (of_decide_eq_true h)⟩
theorem sMul_lst2 {xs : List D} (h : xs.length * 2 ≤ sizeLine) : sMul (.list xs) (.int 2) = some (.list (xs ++ xs)) := by
  unfold sMul
  dsimp only
  rw [if_pos (by simp; exact h)]
  simp [rep, List.replicate]
theorem bent_str [At P 13 F_l_draw] [At P 14 F_l_pick] [At P 19 F_l_bent] (ns : List Int) (hns : ns.length ≤ 63) (n : Nat) (x : Str) : Draws P (n + 3) 19 ns [.str x] 4 (Gud 3) := by
  intro ts hts
  rw [run_at F_l_bent, runFn_fin rfl]
  simp [F_l_bent, startSl, semB, bIsi, isTy, sAdd_lst]
  refine wp_draws (args := [.list _]) (draws_pick _ ns _ hns (by simp)) rfl (by omega) ?_
  intro d' t' ht' hm
  simp
  refine fin_town rfl ⟨t', rfl, by omega, ?_⟩
  revert d'
  repeat first | exact good_nil | refine good_cons ?_ ?_ | exact good_none _ | exact good_bool _ _ | exact good_int _ _ | exact good_str _ _ | refine good_tup ?_ | refine good_lst ?_
theorem bent_int [At P 13 F_l_draw] [At P 14 F_l_pick] [At P 19 F_l_bent] (ns : List Int) (hns : ns.length ≤ 63) (n : Nat) (i : Int) (h0 : 0 ≤ i) (h1 : i ≤ 20) : Draws P (n + 3) 19 ns [.int i] 4 (Gud 3) := by
  intro ts hts
  obtain ⟨s, hs⟩ := bStr_small h0 h1
  rw [run_at F_l_bent, runFn_fin rfl]
  simp [F_l_bent, startSl, semB, bIsi, isTy, sAdd_lst, hs, sMul_lst2]
  refine wp_draws (args := [.list _]) (draws_pick _ ns _ hns (by simp)) rfl (by omega) ?_
  intro d' t' ht' hm
  simp
  refine fin_town rfl ⟨t', rfl, by omega, ?_⟩
  revert d'
  repeat first | exact good_nil | refine good_cons ?_ ?_ | exact good_none _ | exact good_bool _ _ | exact good_int _ _ | exact good_str _ _ | refine good_tup ?_ | refine good_lst ?_
theorem draws_bent [At P 13 F_l_draw] [At P 14 F_l_pick] [At P 19 F_l_bent] (ns : List Int) (hns : ns.length ≤ 63) (n : Nat) : ∀ (k : Nat) (d : D), Sm k d → Draws P (n + k + 3) 19 ns [d] (4 * (k + 1)) (Gud (k + 3)) := by
  intro k
  induction k with
  | zero =>
    intro d hd
    cases d with
    | str x => exact bent_str ns hns n x
    | int i => exact bent_int ns hns n i hd.1 hd.2
    | none => cases hd
    | bool b => cases hd
    | tuple xs => cases hd
    | list xs => cases hd
    | dict kvs => cases hd
  | succ k ih =>
    intro d hd
    have wk : ∀ {d : D}, Draws P (n + (k + 1) + 3) 19 ns [d] 4 (Gud 3) → Draws P (n + (k + 1) + 3) 19 ns [d] (4 * (k + 1 + 1)) (Gud (k + 1 + 3)) := fun h ts hts => by
      refine CR.wp_mono (h ts (by omega)) ?_
      rintro d o ⟨ts', h1, h2, h3⟩
      exact ⟨ts', h1, by omega, h3.mono (by omega)⟩
    cases d with
    | str x => exact wk (bent_str ns hns _ x)
    | int i => exact wk (bent_int ns hns _ i hd.1 hd.2)
    | none => cases hd
    | bool b => cases hd
    | list xs => cases hd
    | dict kvs => cases hd
    | tuple xs =>
      intro ts hts
      have big := sizeLine_ge
      obtain ⟨hl, hx⟩ := hd
      have hg : ∀ x ∈ xs, Gud k x := fun x h => sm_good (hx x h)
      have hgm : ∀ x ∈ xs, Gud (k + 3) x := fun x h => (hg x h).mono (by omega)
      have hgm2 : ∀ x ∈ xs, Gud (k + 2) x := fun x h => (hg x h).mono (by omega)
      have cl : ∀ lo hi, (cut xs lo hi).length ≤ xs.length := fun lo hi => cut_len
      have a1 : ∀ lo hi, sAdd (.tuple xs) (.tuple (cut xs lo hi)) = some (.tuple (xs ++ cut xs lo hi)) := fun lo hi => sAdd_tup (by have := cl lo hi; omega)
      have a2 : ∀ y, sAdd (.tuple xs) (.tuple [y]) = some (.tuple (xs ++ [y])) := fun y => sAdd_tup (by simp; omega)
      rw [run_at F_l_bent, runFn_fin rfl]
      cases xs with
      | nil =>
        simp [F_l_bent, startSl, semB, bIsi, isTy, sAdd_lst, truth, sCut, sRev, bList, a1, a2]
        refine wp_draws (args := [.list _]) (draws_pick _ ns _ hns (by simp)) rfl (by omega) ?_
        intro d' t' ht' hm
        simp
        refine fin_town rfl ⟨t', rfl, by omega, ?_⟩
        revert d'
        repeat first | exact good_nil | refine good_cons ?_ ?_ | exact good_none _ | exact good_bool _ _ | exact good_int _ _ | exact good_str _ _ | refine good_tup ?_ | refine good_lst ?_ | exact good_cut good_nil
      | cons x xs =>
        have hall : ∀ y ∈ x :: xs, Gud (k + 3) y := hgm
        have hx0 := hall x List.mem_cons_self
        have hxs : ∀ y ∈ xs, Gud (k + 3) y := fun y hy => hall y (List.mem_cons_of_mem _ hy)
        have hrev : ∀ y ∈ xs.reverse, Gud (k + 3) y := fun y hy => hxs y (List.mem_reverse.mp hy)
        simp [F_l_bent, startSl, semB, bIsi, isTy, sAdd_lst, truth, sCut, sRev, bList]
        refine wp_draws (args := [.int 4]) (draws_draw _ ns 4 hns (by omega)) rfl (by omega) ?_
        rintro _ t1 h1 ⟨r, rfl, r0, r1⟩
        by_cases hr : r = 0
        · simp [hr, semB, bIsi, isTy, sAdd_lst, truth, sCut, sRev, bList, a1, a2]
          refine wp_draws (args := [.list _]) (draws_pick _ ns _ hns (by simp)) rfl (by omega) ?_
          intro d' t' ht' hm
          simp
          refine fin_town rfl ⟨t', rfl, by omega, ?_⟩
          revert d'
          repeat first | exact good_nil | exact hall | exact hxs | exact hrev | exact hx0 | refine good_cons ?_ ?_ | refine good_app ?_ ?_ | exact good_none _ | exact good_bool _ _ | exact good_int _ _ | exact good_str _ _ | refine good_tup ?_ | refine good_lst ?_ | exact good_cut hall
        · simp [hr, semB]
          refine wp_draws (args := [.int (xs.length + 1)]) (draws_draw _ ns _ hns (by omega)) rfl (by omega) ?_
          rintro _ t2 h2 ⟨j, rfl, j0, j1⟩
          obtain ⟨y, hy, hym⟩ := atI_mem (xs := x :: xs) j0 (by simpa using j1)
          simp [sCut, hy]
          refine wp_draws (args := [y]) (ih y (hx y hym)) rfl (by omega) ?_
          intro d' t3 h3 hgd
          have c1 : (cut (x :: xs) none (some j)).length ≤ xs.length + 1 := cut_len
          have c2 : (cut (x :: xs) (some (j + 1)) none).length ≤ xs.length + 1 := cut_len
          have hl : xs.length + 1 ≤ 100 := hl
          have b1 : sAdd (.tuple (cut (x :: xs) none (some j))) (.tuple [d']) = some (.tuple (cut (x :: xs) none (some j) ++ [d'])) := sAdd_tup (by simp; omega)
          have b2 : sAdd (.tuple (cut (x :: xs) none (some j) ++ [d'])) (.tuple (cut (x :: xs) (some (j + 1)) none)) = some (.tuple (cut (x :: xs) none (some j) ++ [d'] ++ cut (x :: xs) (some (j + 1)) none)) := sAdd_tup (by simp; omega)
          simp [sCut, b1, b2]
          refine fin_town rfl ⟨t3, rfl, by omega, ?_⟩
          exact good_tup (good_app (good_cut hall) (good_cons hgd (good_cut hall)))
end
end Rf
end
section
set_option linter.all false
set_option maxRecDepth 100000
namespace Rf
open PySem
theorem CR.eq_of_wp {r : CR} {x : D} (h : r.wp fun d o => d = x ∧ o = []) : r = .ok x [] := by
  obtain ⟨d, o, e, rfl, rfl⟩ := CR.wp_eq h
  exact e
@[simp] theorem endWp_1 (Q : D → List Cell → Prop) (d : D) (sl : Sl) : endWp [false] Q d sl = Q d [] := rfl
@[simp] theorem endWp_2 (Q : D → List Cell → Prop) (d : D) (sl : Sl) : endWp [false, false] Q d sl = Q d [] := rfl
@[simp] theorem endWp_3 (Q : D → List Cell → Prop) (d : D) (sl : Sl) : endWp [false, false, false] Q d sl = Q d [] := rfl
@[simp] theorem endWp_4 (Q : D → List Cell → Prop) (d : D) (sl : Sl) : endWp [false, false, false, false] Q d sl = Q d [] := rfl
def noYes : List Str := [⟨#[110, 111]⟩, ⟨#[121, 101, 115]⟩]
def Sys.words (S : Sys) (p : Piece) : List Str := if p.isMore then noYes else S.nums
def Sys.sizes (S : Sys) : List Nat := S.holes.map fun p => (S.words p).length
structure Sys.Small (S : Sys) : Prop where
  n : S.nums.length ≤ 100
  f : S.forms.length ≤ 100
  p : ∀ f ∈ S.forms, f.length ≤ 100
theorem sum_le {α : Type} {g : α → Nat} {b : Nat} : ∀ {fs : List α}, (∀ f ∈ fs, g f ≤ b) → (fs.map g).sum ≤ b * fs.length
  | [], _ => by simp
  | f :: fs, h => by
    have h1 := h f List.mem_cons_self
    have h2 := sum_le (fs := fs) fun y hy => h y (List.mem_cons_of_mem _ hy)
    simp only [List.map_cons, List.sum_cons, List.length_cons, Nat.mul_add]
    omega
theorem holes_len {S : Sys} (h : S.Small) : S.holes.length ≤ 10000 := by
  unfold Sys.holes
  rw [List.length_flatMap]
  have h1 : (S.forms.map fun f => (f.filter (!·.isSay)).length).sum ≤ 100 * S.forms.length := sum_le fun f hf => Nat.le_trans (List.length_filter_le _ _) (h.p f hf)
  have := h.f
  omega
theorem zipD_map {α : Type} (g : α → D) : ∀ (xs : List D) (ys : List α), zipD xs (ys.map g) = (List.zip xs ys).map fun p => .tuple [p.1, g p.2]
  | [], _ => rfl
  | _ :: _, [] => rfl
  | x :: xs, y :: ys => by
    have := zipD_map g xs ys
    unfold zipD at this ⊢
    simp only [List.map_cons, List.zipWith_cons_cons, List.zip_cons_cons, this]
section
variable {P : Nat → Option Fn}
theorem run_words_for [At P 8 F_words_for] (n : Nat) (S : Sys) (p : Piece) : run P (n + 1) 8 [.d S.enc, .d p.enc] = .ok (.tuple ((S.words p).map .str)) [] := by
  rw [run_at F_words_for, runFn_fin rfl]
  obtain ⟨k, r, e, _, hm⟩ := enc_cons p
  by_cases h : p.isMore = true
  · have hk := hm.mpr h
    simp [F_words_for, startSl, e, hk, Sys.words, h, globD, noYes]
  · have hk : ¬ k = ⟨#[109, 111, 114, 101]⟩ := fun z => h (hm.mp z)
    simp [F_words_for, startSl, e, hk, Sys.words, h, Sys.enc]
theorem run_l_words [At P 21 F_l_words] (n : Nat) (S : Sys) (p : Piece) : run P (n + 1) 21 [.d S.enc, .d p.enc] = .ok (.list ((S.words p).map .str)) [] := by
  rw [run_at F_l_words, runFn_fin rfl]
  obtain ⟨k, r, e, _, hm⟩ := enc_cons p
  by_cases h : p.isMore = true
  · have hk := hm.mpr h
    simp [F_l_words, startSl, e, hk, Sys.words, h, noYes]
  · have hk : ¬ k = ⟨#[109, 111, 114, 101]⟩ := fun z => h (hm.mp z)
    simp [F_l_words, startSl, e, hk, Sys.words, h, Sys.enc, semB, bList]
theorem holes_of_enc [At P 7 F_holes_of] (n : Nat) (S : Sys) (h : S.Small) : run P (n + 1) 7 [.d S.enc] = .ok (.tuple (S.holes.map Piece.enc)) [] :=
  run_holes_of n _ S.forms h.f h.p
theorem run_sizes_of [At P 7 F_holes_of] [At P 8 F_words_for] [At P 9 F_sizes_of] (n : Nat) (S : Sys) (h : S.Small) : run P (n + 2) 9 [.d S.enc] = .ok (.list (S.sizes.map fun k => .int (k : Nat))) [] := by
  rw [run_at F_sizes_of, runFn_fin rfl]
  have hb := holes_len h
  have hc : evalE (run P (n + 1)) (.comp (.bi .len (.cons (.val (.call 8 (.cons (.val (.var 0)) (.cons (.val (.var 1)) .nil)))) .nil)) (.nm 1) (.seq (.call 7 (.cons (.val (.var 0)) .nil))) .none [1]) [some (.d S.enc), none] = .ok (.list (S.holes.map fun p => .int ((S.words p).length : Nat))) [some (.d S.enc), none] := by
    refine evE_compM S.holes Piece.enc _ (by simp [holes_of_enc n S h]) (by simp) (by simp) (by have := sizeLine_ge; omega) fun p _ => ⟨_, by simp [turnW, semB, run_words_for n S p]; rfl, by simp⟩
  simp [F_sizes_of, startSl, hc, Sys.sizes, Function.comp_def]
theorem times_turn (N : Sl → Prop) (T : D → Sl → Prop) (Γ : Nat → List X → CR) (E : D) (q s : Int) (x2 : Option X) (h : mulOk q s = true) (hn : N [some (.d E), some (.d (.int (q * s))), some (.d (.int s))]) : (forB Γ (.nm 2) (.cons (.asg (.nm 1) (.op .mul (.val (.var 1)) (.val (.var 2)))) .nil) (.int s) [some (.d E), some (.d (.int q)), x2]).wp N T := by
  simp [sMul_int h]
  exact hn
theorem run_how_many [At P 7 F_holes_of] [At P 8 F_words_for] [At P 9 F_sizes_of] [At P 11 F_how_many] (n : Nat) (S : Sys) (h : S.Small) (hs : ∀ s ∈ S.sizes, s ≤ 20) : run P (n + 3) 11 [.d S.enc] = .ok (.int (S.sizes.prod : Nat)) [] := by
  refine CR.eq_of_wp ?_
  rw [run_at F_how_many, runFn_fin rfl]
  simp [F_how_many, startSl, run_sizes_of n S h]
  obtain ⟨I, hI⟩ : ∃ I : Nat → Sl → Prop, I = fun k sl => ∃ x : Option X, sl = [some (.d S.enc), some (.d (.int ((S.sizes.take k).prod : Nat))), x] := ⟨_, rfl⟩
  refine wp_for I ?_ (by rw [hI]; exact ⟨none, by simp⟩) ?_
  · intro k x sl hx hs2
    rw [hI] at hs2
    obtain ⟨x2, rfl⟩ := hs2
    rw [List.getElem?_map] at hx
    obtain ⟨s, hx2, rfl⟩ := Option.map_eq_some_iff.mp hx
    have hsm := hs s (List.mem_of_getElem? hx2)
    have hmo : ∀ x : Int, mulOk x (s : Int) = true := fun x => by
      unfold mulOk
      simp only [Bool.or_eq_true, Bool.and_eq_true, decide_eq_true_eq]
      exact .inr ⟨by omega, by omega⟩
    have hnext : (S.sizes.take (k + 1)).prod = (S.sizes.take k).prod * s := by
      rw [List.take_add_one, hx2]
      simp
    generalize hq : (S.sizes.take k).prod = q at hnext
    have h1 : mulOk (q : Int) (s : Int) = true := hmo _
    have hn2 : ((S.sizes.take (k + 1)).prod : Int) = (q : Int) * (s : Int) := by rw [hnext, Int.natCast_mul]
    clear hnext hq hmo
    generalize (q : Int) = qq at h1 hn2 ⊢
    generalize (s : Int) = ss at h1 hn2 ⊢
    refine times_turn (I (k + 1)) _ _ S.enc qq ss x2 h1 ?_
    rw [hI]
    refine ⟨some (.d (.int ss)), ?_⟩
    rw [hn2]
  · intro sl hs2
    rw [hI] at hs2
    obtain ⟨x2, rfl⟩ := hs2
    rw [List.length_map, List.take_length]
    simp
theorem run_l_holes [At P 20 F_l_holes] (n : Nat) (a : D) (fs : List (List Piece)) (hf : fs.length ≤ 100) (hl : ∀ f ∈ fs, f.length ≤ 100) :
    run P (n + 1) 20 [.d (.tuple [a, .tuple (fs.map fun f => .tuple (f.map Piece.enc))])] = .ok (.list ((fs.flatMap fun f => f.filter (!·.isSay)).map Piece.enc)) [] := by
  refine CR.eq_of_wp ?_
  have big := sizeLine_ge
  rw [run_at F_l_holes, runFn_fin rfl]
  generalize hsys : PyData.tuple [a, .tuple (fs.map fun f => .tuple (f.map Piece.enc))] = sys
  have hidx : sIdx sys (.int 1) = some (.tuple (fs.map fun f => .tuple (f.map Piece.enc))) := by subst hsys; simp
  simp [F_l_holes, startSl, hidx]
  obtain ⟨I, hI⟩ : ∃ I : Nat → Sl → Prop, I = fun k sl => ∃ x : Option X, sl = [some (.d sys), some (.d (.list (((fs.take k).flatMap fun f => f.filter (!·.isSay)).map Piece.enc))), x, none] := ⟨_, rfl⟩
  refine wp_for I ?_ (by rw [hI]; exact ⟨none, rfl⟩) ?_
  · intro k x sl hx hs2
    rw [hI] at hs2
    obtain ⟨x2, rfl⟩ := hs2
    rw [List.getElem?_map] at hx
    obtain ⟨f, hx2, rfl⟩ := Option.map_eq_some_iff.mp hx
    have hfm := hl f (List.mem_of_getElem? hx2)
    have hlen : ((fs.take k).flatMap fun f => f.filter (!·.isSay)).length ≤ 10000 := by
      rw [List.length_flatMap]
      have h1 : ((fs.take k).map fun f => (f.filter (!·.isSay)).length).sum ≤ 100 * (fs.take k).length := sum_le fun f hf => Nat.le_trans (List.length_filter_le _ _) (hl f (List.mem_of_mem_take hf))
      rw [List.length_take] at h1
      omega
    generalize hacc : ((fs.take k).flatMap fun f => f.filter (!·.isSay)) = acc at hlen
    have hc : evalE (run P n) (.comp (.var 3) (.nm 3) (.seq (.var 2)) (.some (.op .ne (.val (.idx (.val (.var 3)) (.val (.const (.int 0))))) (.val (.const (.str ⟨#[115, 97, 121]⟩))))) [3]) [some (.d sys), some (.d (.list (acc.map Piece.enc))), some (.d (.tuple (f.map Piece.enc))), none] =
      .ok (.list (f.filterMap fun p => if p.isSay then none else some p.enc)) [some (.d sys), some (.d (.list (acc.map Piece.enc))), some (.d (.tuple (f.map Piece.enc))), none] := by
      refine evE_compT f Piece.enc (fun p => if p.isSay then none else some p.enc) (by simp) (by simp) (by simp) (by omega) fun p _ => ?_
      obtain ⟨k, r, e1, e2, _⟩ := enc_cons p
      cases hs : p.isSay with
      | true =>
        have hk := e2.mpr hs
        exact ⟨_, by simp [turnW, e1, hk]; rfl, by simp⟩
      | false =>
        have hk : ¬ k = ⟨#[115, 97, 121]⟩ := fun z => by rw [e2.mp z] at hs; cases hs
        exact ⟨_, by simp [turnW, e1, hk]; rfl, by simp⟩
    have e : (f.filterMap fun p => if p.isSay then none else some p.enc) = (f.filter (!·.isSay)).map Piece.enc := by
      clear hx hx2 hfm hc
      induction f with
      | nil => rfl
      | cons p f ih =>
        rw [List.filterMap_cons, List.filter_cons, ih]
        cases p.isSay <;> simp
    rw [e] at hc
    have hfl := List.length_filter_le (fun p : Piece => !p.isSay) f
    have ha : sAdd (.list (acc.map Piece.enc)) (.list ((f.filter (!·.isSay)).map Piece.enc)) = some (.list ((acc ++ f.filter (!·.isSay)).map Piece.enc)) := by
      rw [sAdd_lst (by rw [List.length_map, List.length_map]; omega), List.map_append]
    simp only [forB_nm]
    simp [hc, ha]
    rw [hI]
    refine ⟨some (.d (.tuple (f.map Piece.enc))), ?_⟩
    rw [List.take_add_one, hx2, List.flatMap_append, hacc]
    simp
  · intro sl hs2
    rw [hI] at hs2
    obtain ⟨x2, rfl⟩ := hs2
    rw [List.length_map, List.take_length]
    simp
theorem l_holes_enc [At P 20 F_l_holes] (n : Nat) (S : Sys) (h : S.Small) : run P (n + 1) 20 [.d S.enc] = .ok (.list (S.holes.map Piece.enc)) [] :=
  run_l_holes n _ S.forms h.f h.p
/-- is it a filling -/
def fillB (S : Sys) : D → Bool
  | .tuple xs => decide (xs.length = S.sizes.length) && (List.zip xs S.sizes).all fun p => match p.1 with
    | .int i => decide (0 ≤ i) && decide (i < (p.2 : Int))
    | _ => false
  | _ => false
theorem run_is_filling [At P 0 F_is_whole] [At P 7 F_holes_of] [At P 8 F_words_for] [At P 9 F_sizes_of] [At P 10 F_is_filling] (n : Nat) (S : Sys) (h : S.Small) (d : D) (hd : d.plain = true) : run P (n + 3) 10 [.d S.enc, .d d] = .ok (.bool (fillB S d)) [] := by
  rw [run_at F_is_filling, runFn_fin rfl]
  have hb := holes_len h
  have big := sizeLine_ge
  have hsl : S.sizes.length = S.holes.length := by unfold Sys.sizes; rw [List.length_map]
  cases d with
  | dict kvs => cases hd
  | tuple xs =>
    by_cases hl : xs.length = S.sizes.length
    · have hp := plain_tup hd
      have hc : evalE (run P (n + 2)) (.comp (.and_ (.call 0 (.cons (.val (.var 3)) .nil)) (.chain .le .lt (.const (.int 0)) (.var 3) (.var 4))) (.tp [3, 4]) (.zip (.var 1) (.var 2)) .none [3, 4]) [some (.d S.enc), some (.d (.tuple xs)), some (.d (.list (S.sizes.map fun k => .int (k : Nat)))), none, none] = .ok (.list ((List.zip xs S.sizes).map fun p => .bool (match p.1 with
    | .int i => decide (0 ≤ i) && decide (i < (p.2 : Int))
    | _ => false))) [some (.d S.enc), some (.d (.tuple xs)), some (.d (.list (S.sizes.map fun k => .int (k : Nat)))), none, none] := by
        refine evE_compM (List.zip xs S.sizes) (fun p => .tuple [p.1, .int (p.2 : Nat)]) _ (by simp [zipD_map]) (by simp) (by simp) (by rw [List.length_zip]; omega) fun p hp2 => ?_
        have hpl := hp p.1 (List.of_mem_zip hp2).1
        have hw := run_is_whole (P := P) (n + 1) p.1 (plain_nd hpl)
        obtain ⟨x, s⟩ := p
        cases x with
        | int i =>
          by_cases h0 : 0 ≤ i
          · exact ⟨_, by simp [turnW, hw, wholeD, h0]; rfl, by simp⟩
          · exact ⟨_, by simp [turnW, hw, wholeD, h0]; rfl, by simp⟩
        | dict kvs => cases hpl
        | _ => exact ⟨_, by simp [turnW, hw, wholeD]; rfl, by simp⟩
      simp [F_is_filling, startSl, run_sizes_of n S h, semB, bIsi, isTy, hl, hc, bAll_map, fillB]
    · have hl2 : ¬ ((xs.length : Int) = (S.sizes.length : Int)) := by omega
      simp [F_is_filling, startSl, run_sizes_of n S h, semB, bIsi, isTy, hl, hl2, fillB]
  | _ => simp [F_is_filling, startSl, run_sizes_of n S h, semB, bIsi, isTy, fillB]
end
end Rf
end
section
set_option linter.all false
set_option maxRecDepth 100000
namespace Rf
open PySem
@[simp] theorem sem2_is_none (a : D) : sem2 .is_ a .none = some (.bool (isNone a)) := rfl
@[simp] theorem sem2_isnt_none (a : D) : sem2 .isnt a .none = some (.bool (!isNone a)) := rfl
@[simp] theorem isNone_bool (b : Bool) : isNone (.bool b) = false := rfl
@[simp] theorem isNone_int (b : Int) : isNone (.int b) = false := rfl
@[simp] theorem isNone_str (b : Str) : isNone (.str b) = false := rfl
@[simp] theorem isNone_tuple (b : List D) : isNone (.tuple b) = false := rfl
@[simp] theorem isNone_list (b : List D) : isNone (.list b) = false := rfl
section
variable {P : Nat → Option Fn}
theorem run_same_bool [At P 12 F_l_same] (n : Nat) (a b : Bool) : run P (n + 1) 12 [.d (.bool a), .d (.bool b)] = .ok (.bool (a == b)) [] := by
  rw [run_at F_l_same, runFn_fin rfl]
  cases a <;> cases b <;> simp [F_l_same, startSl, semB, bIsi, isTy]
theorem run_same_int [At P 12 F_l_same] (n : Nat) (a b : Int) : run P (n + 1) 12 [.d (.int a), .d (.int b)] = .ok (.bool (decide (a = b))) [] := by
  rw [run_at F_l_same, runFn_fin rfl]
  simp [F_l_same, startSl, semB, bIsi, isTy]
theorem run_same_str [At P 12 F_l_same] (n : Nat) (a b : Str) : run P (n + 1) 12 [.d (.str a), .d (.str b)] = .ok (.bool (decide (a = b))) [] := by
  rw [run_at F_l_same, runFn_fin rfl]
  simp [F_l_same, startSl, semB, bIsi, isTy]
theorem zip_self (xs : List D) : zipD xs xs = xs.map fun x => .tuple [x, x] := by
  induction xs with
  | nil => rfl
  | cons x xs ih => unfold zipD at *; simp [ih]
theorem run_same_self [At P 12 F_l_same] (n : Nat) : ∀ (k : Nat) (d : D), Sm k d → run P (n + k + 1) 12 [.d d, .d d] = .ok (.bool true) [] := by
  intro k
  induction k with
  | zero =>
    intro d hd
    cases d with
    | str x => rw [run_same_str]; simp
    | int i => rw [run_same_int]; simp
    | none => cases hd
    | bool b => cases hd
    | tuple xs => cases hd
    | list xs => cases hd
    | dict kvs => cases hd
  | succ k ih =>
    intro d hd
    cases d with
    | str x => rw [run_same_str]; simp
    | int i => rw [run_same_int]; simp
    | none => cases hd
    | bool b => cases hd
    | list xs => cases hd
    | dict kvs => cases hd
    | tuple xs =>
      have big := sizeLine_ge
      obtain ⟨hl, hx⟩ := hd
      rw [run_at F_l_same, runFn_fin rfl]
      have hc : evalE (run P (n + (k + 1))) (.comp (.call 12 (.cons (.val (.var 2)) (.cons (.val (.var 3)) .nil))) (.tp [2, 3]) (.zip (.var 0) (.var 1)) .none [2, 3]) [some (.d (.tuple xs)), some (.d (.tuple xs)), none, none] = .ok (.list (xs.map fun _ => .bool true)) [some (.d (.tuple xs)), some (.d (.tuple xs)), none, none] :=
        evE_compM xs (fun x => .tuple [x, x]) (fun _ => .bool true) (by simp [zip_self]) (by simp) (by simp) (by omega) fun y hy => ⟨_, by simp [turnW]; rw [show n + (k + 1) = n + k + 1 from rfl, ih y (hx y hy)]; simp; rfl, by simp⟩
      have ha : bAll [.list (xs.map fun _ => .bool true)] = some (.bool true) := by
        have h1 := bAll_map xs (fun _ => true)
        rw [h1, show xs.all (fun _ => true) = true from List.all_eq_true.mpr fun _ _ => rfl]
      simp [F_l_same, startSl, semB, bIsi, isTy, hc, ha]
end
end Rf
end
section
set_option linter.all false
set_option maxRecDepth 100000
namespace Rf
open PySem
section
variable {P : Nat → Option Fn}
/-- the law's letters: a text of 1 to most small letters -/
def lettersB (most : Nat) : D → Bool
  | .str x => decide (1 ≤ x.length) && decide (x.length ≤ most) && x.cps.toList.all lowB
  | _ => false
theorem sEqB_lnil (xs : List D) (h : ∀ x ∈ xs, x.plain = true) : sEqB (.list xs) (.list []) = some xs.isEmpty := by
  unfold sEqB
  have h1 : PyData.plain (.list xs) = true := by
    rw [PyData.plain]; exact plainAll_of h
  have h2 : PyData.plain (.list []) = true := by simp [PyData.plain, PyData.plainAll]
  have h3 : min (PyData.depth (.list xs)) (PyData.depth (.list [])) ≤ depthLine := by
    have : PyData.depth (.list []) ≤ 1 := by simp [PyData.depth, PyData.depthAll]
    have : (1 : Nat) ≤ depthLine := by decide
    omega
  rw [if_pos (by rw [h1, h2, decide_eq_true h3]; rfl)]
  cases xs <;> simp [PyData.eqv, PyData.eqvAll]
theorem run_letters [At P 24 F_l_letters] (n : Nat) (d : D) (most : Nat) (hm : most ≤ 9) (hd : ∀ kvs, d ≠ .dict kvs) : run P (n + 1) 24 [.d d, .d (.int most)] = .ok (.bool (lettersB most d)) [] := by
  have big := sizeLine_ge
  rw [run_at F_l_letters, runFn_fin rfl]
  cases d with
  | dict kvs => exact absurd rfl (hd _)
  | str x =>
    by_cases h0 : 1 ≤ x.length
    · by_cases h1 : x.length ≤ most
      · have g0 : 0 < x.length := by omega
        have g1 := h1
        have hc : evalE (run P n) (.comp (.var 2) (.nm 2) (.seq (.var 0)) (.some (.not_ (.chain .le .le (.const (.str ⟨#[97]⟩)) (.var 2) (.const (.str ⟨#[122]⟩))))) [2]) [some (.d (.str x)), some (.d (.int most)), none] = .ok (.list (x.cps.toList.filterMap fun c => if lowB c then none else some (.str ⟨#[c]⟩))) [some (.d (.str x)), some (.d (.int most)), none] := by
          refine evE_compT x.cps.toList (fun c => .str ⟨#[c]⟩) _ (by simp; rfl) (by simp) (by simp) (by rw [Array.length_toList]; show x.length ≤ _; omega) fun c _ => ?_
          unfold lowB
          by_cases a : 97 ≤ c
          · by_cases b : c ≤ 122
            · exact ⟨_, by simp [turnW, a, b]; rfl, by simp⟩
            · exact ⟨_, by simp [turnW, a, b]; rfl, by simp⟩
          · exact ⟨_, by simp [turnW, a]; rfl, by simp⟩
        have he := sEqB_lnil (x.cps.toList.filterMap fun c => if lowB c then none else some (PyData.str ⟨#[c]⟩)) (fun y hy => by
          obtain ⟨c, _, hc⟩ := List.mem_filterMap.mp hy
          split at hc
          · cases hc
          · cases hc; exact str_plain _)
        have hb : (x.cps.toList.filterMap fun c => if lowB c then none else some (PyData.str ⟨#[c]⟩)).isEmpty = x.cps.toList.all lowB := by
          induction x.cps.toList with
          | nil => rfl
          | cons c l ih =>
            rw [List.filterMap_cons, List.all_cons]
            by_cases h : lowB c = true
            · simp [h]; simpa using ih
            · simp [h]
        simp [F_l_letters, startSl, semB, bIsi, isTy, g0, g1, hc, he, hb, lettersB, h0, h1, oB]
      · have g1 := h1
        have g0 : 0 < x.length := by omega
        simp [F_l_letters, startSl, semB, bIsi, isTy, g0, g1, lettersB, h0, h1]
    · have g0 : ¬ 0 < x.length := by omega
      simp [F_l_letters, startSl, semB, bIsi, isTy, g0, lettersB, h0]
  | _ => simp [F_l_letters, startSl, semB, bIsi, isTy, lettersB]
end
end Rf
end
section
set_option linter.all false
set_option maxRecDepth 100000
namespace Rf
open PySem
@[simp] theorem isDct_zeroK (b : Bool) (kvs : List (DK × D)) (r : Sl) : isDct (some (.cell b (.dK kvs)) :: r) 0 = true := rfl
@[simp] theorem isDct_succ (y : Option X) (r : Sl) (i : Nat) : isDct (y :: r) (i + 1) = isDct r i := rfl
section
variable {P : Nat → Option Fn}
def tblK : List (DK × D) := [((.inr ⟨#[115, 105, 103, 110]⟩), (.int 3)), ((.inr ⟨#[102, 105, 114, 115, 116]⟩), (.int 3)), ((.inr ⟨#[119, 111, 114, 100]⟩), (.int 3)), ((.inr ⟨#[112, 108, 97, 99, 101]⟩), (.int 3)), ((.inr ⟨#[115, 105, 122, 101]⟩), (.int 2)), ((.inr ⟨#[117, 110, 108, 105, 107, 101]⟩), (.int 2)), ((.inr ⟨#[108, 111, 110, 103, 101, 115, 116]⟩), (.int 2)), ((.inr ⟨#[109, 111, 114, 101]⟩), (.int 4))]
def kindN (k : Str) : Nat := match signsTab.lookup k with
  | some ss => ss.length + 1
  | none => 0
theorem tbl_get (k : Str) : (vGet tblK (.inr k)).getD (.int 0) = .int (kindN k) := by
  by_cases h1 : k = ⟨#[115, 105, 103, 110]⟩
  · subst h1; rfl
  by_cases h2 : k = ⟨#[102, 105, 114, 115, 116]⟩
  · subst h2; rfl
  by_cases h3 : k = ⟨#[119, 111, 114, 100]⟩
  · subst h3; rfl
  by_cases h4 : k = ⟨#[112, 108, 97, 99, 101]⟩
  · subst h4; rfl
  by_cases h5 : k = ⟨#[115, 105, 122, 101]⟩
  · subst h5; rfl
  by_cases h6 : k = ⟨#[117, 110, 108, 105, 107, 101]⟩
  · subst h6; rfl
  by_cases h7 : k = ⟨#[108, 111, 110, 103, 101, 115, 116]⟩
  · subst h7; rfl
  by_cases h8 : k = ⟨#[109, 111, 114, 101]⟩
  · subst h8; rfl
  have e : kindN k = 0 := by
    unfold kindN signsTab
    simp only [List.lookup_cons, List.lookup_nil, beq_eq_false_iff_ne.mpr h1, beq_eq_false_iff_ne.mpr h2, beq_eq_false_iff_ne.mpr h3, beq_eq_false_iff_ne.mpr h4, beq_eq_false_iff_ne.mpr h5, beq_eq_false_iff_ne.mpr h6, beq_eq_false_iff_ne.mpr h7, beq_eq_false_iff_ne.mpr h8]
  rw [e]
  unfold tblK
  have n1 := Ne.symm h1
  have n2 := Ne.symm h2
  have n3 := Ne.symm h3
  have n4 := Ne.symm h4
  have n5 := Ne.symm h5
  have n6 := Ne.symm h6
  have n7 := Ne.symm h7
  have n8 := Ne.symm h8
  simp [vGet, n1, n2, n3, n4, n5, n6, n7, n8]
theorem piece_comp [At P 24 F_l_letters] (n : Nat) (xs : List D) (m : D) (c : Cell) (mi : Int) (most : Nat) (hmi : mi = (most : Int)) (hm : most ≤ 9) (hx : xs.length ≤ 100) (hp : ∀ x ∈ xs, x.plain = true) :
    evalE (run P (n + 1)) (.comp (.var 4) (.nm 4) (.seq (.slice (.val (.var 0)) (.some (.const (.int 1))) (.some (.neg (.const (.int 1)))))) (.some (.not_ (.call 24 (.cons (.val (.var 4)) (.cons (.val (.var 3)) .nil))))) [4]) [some (.d (.tuple xs)), some (.d m), some (.cell true c), some (.d (.int mi)), none] =
      .ok (.list ((cut xs (some 1) (some (-1))).filterMap fun y => if lettersB most y then none else some y)) [some (.d (.tuple xs)), some (.d m), some (.cell true c), some (.d (.int mi)), none] := by
  subst hmi
  have big := sizeLine_ge
  have hl : (cut xs (some 1) (some (-1))).length ≤ xs.length := cut_len
  refine evE_compT (cut xs (some 1) (some (-1))) id _ (by simp [sCut]) (by simp) (by simp) (by omega) fun y hy => ?_
  have hr := run_letters (P := P) n y most hm (plain_nd (hp y (cut_sub y hy)))
  cases h : lettersB most y with
  | true => exact ⟨_, by simp [turnW, hr, h]; rfl, by simp⟩
  | false => exact ⟨_, by simp [turnW, hr, h]; rfl, by simp⟩
theorem empty_all (most : Nat) (l : List D) : (l.filterMap fun y => if lettersB most y then none else some y).isEmpty = l.all (lettersB most) := by
  induction l with
  | nil => rfl
  | cons c l ih =>
    rw [List.filterMap_cons, List.all_cons]
    by_cases h : lettersB most c = true
    · simp [h]; simpa using ih
    · simp [h]
theorem sEqB_fil (most : Nat) (l : List D) (hp : ∀ x ∈ l, x.plain = true) : sEqB (.list (l.filterMap fun y => if lettersB most y then none else some y)) (.list []) = some (l.all (lettersB most)) := by
  rw [sEqB_lnil _ (fun y hy => by
    obtain ⟨c, hc1, hc⟩ := List.mem_filterMap.mp hy
    split at hc
    · cases hc
    · cases hc; exact hp _ hc1), empty_all]
def timeB (many : Nat) : D → Bool
  | .int i => decide (0 ≤ i) && decide (i < (many : Int))
  | _ => false
def wideK (k : Str) : Nat := if k = ⟨#[119, 111, 114, 100]⟩ ∨ k = ⟨#[112, 108, 97, 99, 101]⟩ then 9 else 1
theorem own_short [At P 24 F_l_letters] [At P 25 F_l_is_piece] (n many : Nat) (k : Str) (r : List D) (hp : PyData.plain (.tuple (.str k :: r)) = true) (hk : k ≠ sayS) (hn : kindN k ≠ r.length + 1) : run P (n + 2) 25 [.d (.tuple (.str k :: r)), .d (.int many)] = .ok (.bool false) [] := by
  rw [run_at F_l_is_piece, runFn_fin rfl]
  have hk2 : ¬ k = ⟨#[115, 97, 121]⟩ := hk
  have ht := tbl_get k
  unfold tblK at ht
  have hn1 : ¬ ((kindN k : Int) = (r.length : Int) + 1) := by omega
  cases r with
  | nil => simp [F_l_is_piece, startSl, semB, bIsi, isTy]
  | cons a r =>
    have h2 : ¬ ((r.length : Int) + 1 + 1 < 2) := by omega
    rw [List.length_cons] at hn1
    push_cast at hn1
    simp [F_l_is_piece, startSl, semB, bIsi, isTy, hk2, h2, dK?, ht, hn1]
theorem own_two [At P 24 F_l_letters] [At P 25 F_l_is_piece] (n many : Nat) (k : Str) (t : D) (hp : PyData.plain (.tuple [.str k, t]) = true) (hk : k ≠ sayS) (hn : kindN k = 2) (hm : k ≠ moreS) (hw : wideK k = 1) : run P (n + 2) 25 [.d (.tuple [.str k, t]), .d (.int many)] = .ok (.bool (timeB many t)) [] := by
  rw [run_at F_l_is_piece, runFn_fin rfl]
  have hk2 : ¬ k = ⟨#[115, 97, 121]⟩ := hk
  have hm2 : ¬ k = ⟨#[109, 111, 114, 101]⟩ := hm
  have hw2 : ¬ (k = ⟨#[119, 111, 114, 100]⟩ ∨ k = ⟨#[112, 108, 97, 99, 101]⟩) := fun z => by unfold wideK at hw; rw [if_pos z] at hw; cases hw
  have hw3 : ¬ (⟨#[119, 111, 114, 100]⟩ : Str) = k := fun z => hw2 (.inl z.symm)
  have hw4 : ¬ (⟨#[112, 108, 97, 99, 101]⟩ : Str) = k := fun z => hw2 (.inr z.symm)
  have ht := tbl_get k
  rw [hn] at ht
  unfold tblK at ht
  have al : atI [PyData.str k, t] (-1) = some t := rfl
  have hc := piece_comp (P := P) n [.str k, t] (.int many) (.dK tblK) 1 1 rfl (by omega) (by simp) (plain_tup hp)
  have he := sEqB_fil 1 (cut [PyData.str k, t] (some 1) (some (-1))) (fun x hx => plain_tup hp x (cut_sub x hx))
  have hcut : cut [PyData.str k, t] (some 1) (some (-1)) = [] := rfl
  rw [hcut] at hc he
  simp only [List.filterMap_nil, List.all_nil] at hc he
  unfold tblK at hc
  cases t with
  | int i =>
    by_cases h0 : 0 ≤ i
    · by_cases h1 : i < (many : Int)
      · simp [F_l_is_piece, startSl, semB, bIsi, isTy, hk2, hm2, hw3, hw4, dK?, ht, al, h0, h1, sInB_two, hc, he, oB, timeB]
      · simp [F_l_is_piece, startSl, semB, bIsi, isTy, hk2, hm2, dK?, ht, al, h0, h1, timeB]
    · simp [F_l_is_piece, startSl, semB, bIsi, isTy, hk2, hm2, dK?, ht, al, h0, timeB]
  | dict kvs => exact absurd (plain_tup hp (.dict kvs) (by simp)) (by rw [PyData.plain]; simp)
  | _ => simp [F_l_is_piece, startSl, semB, bIsi, isTy, hk2, dK?, ht, al, timeB]
theorem own_three [At P 24 F_l_letters] [At P 25 F_l_is_piece] (n many : Nat) (k : Str) (a t : D) (hp : PyData.plain (.tuple [.str k, a, t]) = true) (hk : k ≠ sayS) (hn : kindN k = 3) (hm : k ≠ moreS) : run P (n + 2) 25 [.d (.tuple [.str k, a, t]), .d (.int many)] = .ok (.bool (timeB many t && lettersB (wideK k) a)) [] := by
  rw [run_at F_l_is_piece, runFn_fin rfl]
  have hk2 : ¬ k = ⟨#[115, 97, 121]⟩ := hk
  have hm2 : ¬ k = ⟨#[109, 111, 114, 101]⟩ := hm
  have ht := tbl_get k
  rw [hn] at ht
  unfold tblK at ht
  have al : atI [PyData.str k, a, t] (-1) = some t := rfl
  have hc1 := piece_comp (P := P) n [.str k, a, t] (.int many) (.dK tblK) 1 1 rfl (by omega) (by simp) (plain_tup hp)
  have hc9 := piece_comp (P := P) n [.str k, a, t] (.int many) (.dK tblK) 9 9 rfl (by omega) (by simp) (plain_tup hp)
  have he1 := sEqB_fil 1 (cut [PyData.str k, a, t] (some 1) (some (-1))) (fun x hx => plain_tup hp x (cut_sub x hx))
  have he9 := sEqB_fil 9 (cut [PyData.str k, a, t] (some 1) (some (-1))) (fun x hx => plain_tup hp x (cut_sub x hx))
  have hcut : cut [PyData.str k, a, t] (some 1) (some (-1)) = [a] := rfl
  rw [hcut] at hc1 he1 hc9 he9
  generalize ([a].filterMap fun y => if lettersB 1 y then none else some y) = l1 at hc1 he1
  generalize ([a].filterMap fun y => if lettersB 9 y then none else some y) = l9 at hc9 he9
  simp only [List.all_cons, List.all_nil, Bool.and_true] at he1 he9
  unfold tblK at hc1 hc9
  cases t with
  | int i =>
    by_cases h0 : 0 ≤ i
    · by_cases h1 : i < (many : Int)
      · by_cases hw3 : (⟨#[119, 111, 114, 100]⟩ : Str) = k ∨ (⟨#[112, 108, 97, 99, 101]⟩ : Str) = k
        · have hwk : wideK k = 9 := if_pos (hw3.imp Eq.symm Eq.symm)
          have hin : sInB (.str k) (.tuple [.str ⟨#[119, 111, 114, 100]⟩, .str ⟨#[112, 108, 97, 99, 101]⟩]) = some true := by
            rw [sInB_two]; rcases hw3 with z | z <;> simp [z]
          simp [F_l_is_piece, startSl, semB, bIsi, isTy, hk2, hm2, hin, dK?, ht, al, h0, h1, hc9, he9, oB, timeB, hwk]
        · have hwk : wideK k = 1 := if_neg (fun z => hw3 (z.imp Eq.symm Eq.symm))
          have hin : sInB (.str k) (.tuple [.str ⟨#[119, 111, 114, 100]⟩, .str ⟨#[112, 108, 97, 99, 101]⟩]) = some false := by
            rw [sInB_two]
            have z1 : ¬ (⟨#[119, 111, 114, 100]⟩ : Str) = k := fun z => hw3 (.inl z)
            have z2 : ¬ (⟨#[112, 108, 97, 99, 101]⟩ : Str) = k := fun z => hw3 (.inr z)
            simp [z1, z2]
          simp [F_l_is_piece, startSl, semB, bIsi, isTy, hk2, hm2, hin, dK?, ht, al, h0, h1, hc1, he1, oB, timeB, hwk]
      · simp [F_l_is_piece, startSl, semB, bIsi, isTy, hk2, hm2, dK?, ht, al, h0, h1, timeB]
    · simp [F_l_is_piece, startSl, semB, bIsi, isTy, hk2, hm2, dK?, ht, al, h0, timeB]
  | dict kvs => exact absurd (plain_tup hp (.dict kvs) (by simp)) (by rw [PyData.plain]; simp)
  | _ => simp [F_l_is_piece, startSl, semB, bIsi, isTy, hk2, dK?, ht, al, timeB]
theorem own_more [At P 24 F_l_letters] [At P 25 F_l_is_piece] (n many : Nat) (a b t : D) (hp : PyData.plain (.tuple [.str moreS, a, b, t]) = true) (hd : a.depth ≤ 50) : run P (n + 2) 25 [.d (.tuple [.str moreS, a, b, t]), .d (.int many)] = .ok (.bool (timeB many t && !(PyData.eqv a b) && lettersB 1 a && lettersB 1 b)) [] := by
  rw [run_at F_l_is_piece, runFn_fin rfl]
  have ht := tbl_get moreS
  rw [show kindN moreS = 4 from rfl] at ht
  unfold tblK at ht
  have al : atI [PyData.str moreS, a, b, t] (-1) = some t := rfl
  have hc1 := piece_comp (P := P) n [.str moreS, a, b, t] (.int many) (.dK tblK) 1 1 rfl (by omega) (by simp) (plain_tup hp)
  have he1 := sEqB_fil 1 (cut [PyData.str moreS, a, b, t] (some 1) (some (-1))) (fun x hx => plain_tup hp x (cut_sub x hx))
  have hcut : cut [PyData.str moreS, a, b, t] (some 1) (some (-1)) = [a, b] := rfl
  rw [hcut] at hc1 he1
  generalize ([a, b].filterMap fun y => if lettersB 1 y then none else some y) = l1 at hc1 he1
  simp only [List.all_cons, List.all_nil, Bool.and_true] at he1
  have hab : sEqB a b = some (PyData.eqv a b) := by
    have h1 := plain_tup hp a (by simp)
    have h2 := plain_tup hp b (by simp)
    have h3 : min a.depth b.depth ≤ depthLine := by
      have : (50 : Nat) ≤ depthLine := by decide
      omega
    exact if_pos (by rw [h1, h2, decide_eq_true h3]; rfl)
  unfold tblK at hc1
  unfold moreS at ht al hc1 ⊢
  cases t with
  | int i =>
    by_cases h0 : 0 ≤ i
    · by_cases h1 : i < (many : Int)
      · cases he : PyData.eqv a b with
        | true => simp [F_l_is_piece, startSl, semB, bIsi, isTy, dK?, ht, al, h0, h1, hab, he, oB, timeB]
        | false => simp [F_l_is_piece, startSl, semB, bIsi, isTy, dK?, ht, al, h0, h1, sInB_two, hc1, he1, hab, he, oB, timeB]
      · simp [F_l_is_piece, startSl, semB, bIsi, isTy, dK?, ht, al, h0, h1, timeB]
    · simp [F_l_is_piece, startSl, semB, bIsi, isTy, dK?, ht, al, h0, timeB]
  | dict kvs => exact absurd (plain_tup hp (.dict kvs) (by simp)) (by rw [PyData.plain]; simp)
  | _ => simp [F_l_is_piece, startSl, semB, bIsi, isTy, dK?, ht, al, timeB]
end
end Rf
end
section
set_option linter.all false
set_option maxRecDepth 100000
namespace Rf
open PySem
section
variable {P : Nat → Option Fn}
theorem letters9 (d : D) : lettersB 9 d = wordD d := by cases d <;> rfl
theorem part119 (many : Nat) (d : D) : partB many 119 d = wordD d := by
  unfold partB; simp
theorem part116 (many : Nat) (d : D) : partB many 116 d = timeB many d := by
  unfold partB; simp; cases d <;> rfl
theorem part115 (many : Nat) (d : D) : partB many 115 d = lettersB 1 d := by
  unfold partB
  rw [if_neg (by decide)]
  cases d <;> first | rfl | skip
  rename_i x
  show (wordB x && (false || decide (x.length = 1))) = (decide (1 ≤ x.length) && decide (x.length ≤ 1) && x.cps.toList.all lowB)
  unfold wordB
  generalize x.cps.toList.all lowB = q
  generalize x.length = m
  by_cases h : m = 1
  · subst h; cases q <;> rfl
  · have : ¬ (1 ≤ m ∧ m ≤ 1) := by omega
    rw [Bool.eq_iff_iff]
    simp [h]
    omega
theorem kinds_of {k : Str} {ss : Str} (h : signsTab.lookup k = some ss) : k = ⟨#[115, 105, 103, 110]⟩ ∨ k = ⟨#[102, 105, 114, 115, 116]⟩ ∨ k = ⟨#[119, 111, 114, 100]⟩ ∨ k = ⟨#[112, 108, 97, 99, 101]⟩ ∨ k = ⟨#[115, 105, 122, 101]⟩ ∨ k = ⟨#[117, 110, 108, 105, 107, 101]⟩ ∨ k = ⟨#[108, 111, 110, 103, 101, 115, 116]⟩ ∨ k = ⟨#[109, 111, 114, 101]⟩ := by
  by_cases h1 : k = ⟨#[115, 105, 103, 110]⟩
  · exact .inl h1
  by_cases h2 : k = ⟨#[102, 105, 114, 115, 116]⟩
  · exact .inr (.inl h2)
  by_cases h3 : k = ⟨#[119, 111, 114, 100]⟩
  · exact .inr (.inr (.inl h3))
  by_cases h4 : k = ⟨#[112, 108, 97, 99, 101]⟩
  · exact .inr (.inr (.inr (.inl h4)))
  by_cases h5 : k = ⟨#[115, 105, 122, 101]⟩
  · exact .inr (.inr (.inr (.inr (.inl h5))))
  by_cases h6 : k = ⟨#[117, 110, 108, 105, 107, 101]⟩
  · exact .inr (.inr (.inr (.inr (.inr (.inl h6)))))
  by_cases h7 : k = ⟨#[108, 111, 110, 103, 101, 115, 116]⟩
  · exact .inr (.inr (.inr (.inr (.inr (.inr (.inl h7))))))
  by_cases h8 : k = ⟨#[109, 111, 114, 101]⟩
  · exact .inr (.inr (.inr (.inr (.inr (.inr (.inr h8))))))
  unfold signsTab at h
  simp only [List.lookup_cons, List.lookup_nil, beq_eq_false_iff_ne.mpr h1, beq_eq_false_iff_ne.mpr h2, beq_eq_false_iff_ne.mpr h3, beq_eq_false_iff_ne.mpr h4, beq_eq_false_iff_ne.mpr h5, beq_eq_false_iff_ne.mpr h6, beq_eq_false_iff_ne.mpr h7, beq_eq_false_iff_ne.mpr h8] at h
  cases h
theorem piece_hole {many : Nat} {k : Str} {r : List D} (h : k ≠ sayS) : pieceB many (.tuple (.str k :: r)) = holeB many (.tuple (.str k :: r)) := by
  unfold pieceB
  split
  · rename_i h2; cases h2; rw [if_neg h]
  · rfl
theorem run_own_piece [At P 24 F_l_letters] [At P 25 F_l_is_piece] (n many : Nat) (d : D) (hd : Gud 51 d) : run P (n + 2) 25 [.d d, .d (.int many)] = .ok (.bool (pieceB many d)) [] := by
  have hp := hd.pl
  cases d with
  | dict kvs => rw [PyData.plain] at hp; cases hp
  | tuple xs =>
    cases xs with
    | nil =>
      rw [run_at F_l_is_piece, runFn_fin rfl]
      simp [F_l_is_piece, startSl, semB, bIsi, isTy, pieceB, holeB]
    | cons x r =>
      cases x with
      | str k =>
        by_cases hk : k = sayS
        · subst hk
          have hlk : signsTab.lookup sayS = none := by decide
          have hho : holeB many (.tuple (.str sayS :: r)) = false := by unfold holeB; simp only [hlk]
          rw [run_at F_l_is_piece, runFn_fin rfl]
          match r, hho with
          | [], hho => simp [F_l_is_piece, startSl, semB, bIsi, isTy, pieceB, hho]
          | [a], hho =>
            have hl := run_letters (P := P) n a 9 (by omega) (plain_nd (plain_tup hp a (by simp)))
            rw [letters9] at hl
            unfold sayS at *
            have hl : run P (n + 1) 24 [.d a, .d (.int 9)] = .ok (.bool (wordD a)) [] := hl
            simp [F_l_is_piece, startSl, semB, bIsi, isTy, pieceB, sayS, hl]
          | a :: b :: r, hho =>
            have h2 : ¬ ((r.length : Int) + 1 + 1 + 1 < 2) := by omega
            have h3 : ¬ ((r.length : Int) + 1 + 1 + 1 = 2) := by omega
            have hpi : pieceB many (.tuple (.str sayS :: a :: b :: r)) = false := hho
            unfold sayS at *
            simp [F_l_is_piece, startSl, semB, bIsi, isTy, hpi, h2, h3]
        · rw [piece_hole hk]
          by_cases hn : kindN k = r.length + 1
          · cases hlk : signsTab.lookup k with
            | none => unfold kindN at hn; rw [hlk] at hn; cases hn
            | some ss =>
              rcases kinds_of hlk with rfl | rfl | rfl | rfl | rfl | rfl | rfl | rfl
              · obtain ⟨a, t, rfl⟩ : ∃ a t, r = [a, t] := by
                  have : r.length = 2 := by have : kindN (⟨#[115, 105, 103, 110]⟩ : Str) = 3 := rfl; omega
                  match r, this with
                  | [a, t], _ => exact ⟨a, t, rfl⟩
                rw [own_three n many _ a t hp hk rfl (by decide)]
                congr 2
                show _ = (decide (2 = 2) && (partB many 115 a && (partB many 116 t && true)) && (!decide _ || _))
                rw [part115, part116, show (wideK ⟨#[115, 105, 103, 110]⟩) = 1 from by decide]
                simp [moreS, Bool.and_comm]
              · obtain ⟨a, t, rfl⟩ : ∃ a t, r = [a, t] := by
                  have : r.length = 2 := by have : kindN (⟨#[102, 105, 114, 115, 116]⟩ : Str) = 3 := rfl; omega
                  match r, this with
                  | [a, t], _ => exact ⟨a, t, rfl⟩
                rw [own_three n many _ a t hp hk rfl (by decide)]
                congr 2
                show _ = (decide (2 = 2) && (partB many 115 a && (partB many 116 t && true)) && (!decide _ || _))
                rw [part115, part116, show (wideK ⟨#[102, 105, 114, 115, 116]⟩) = 1 from by decide]
                simp [moreS, Bool.and_comm]
              · obtain ⟨a, t, rfl⟩ : ∃ a t, r = [a, t] := by
                  have : r.length = 2 := by have : kindN (⟨#[119, 111, 114, 100]⟩ : Str) = 3 := rfl; omega
                  match r, this with
                  | [a, t], _ => exact ⟨a, t, rfl⟩
                rw [own_three n many _ a t hp hk rfl (by decide)]
                congr 2
                show _ = (decide (2 = 2) && (partB many 119 a && (partB many 116 t && true)) && (!decide _ || _))
                rw [part119, part116, show (wideK ⟨#[119, 111, 114, 100]⟩) = 9 from by decide, letters9]
                simp [moreS, Bool.and_comm]
              · obtain ⟨a, t, rfl⟩ : ∃ a t, r = [a, t] := by
                  have : r.length = 2 := by have : kindN (⟨#[112, 108, 97, 99, 101]⟩ : Str) = 3 := rfl; omega
                  match r, this with
                  | [a, t], _ => exact ⟨a, t, rfl⟩
                rw [own_three n many _ a t hp hk rfl (by decide)]
                congr 2
                show _ = (decide (2 = 2) && (partB many 119 a && (partB many 116 t && true)) && (!decide _ || _))
                rw [part119, part116, show (wideK ⟨#[112, 108, 97, 99, 101]⟩) = 9 from by decide, letters9]
                simp [moreS, Bool.and_comm]
              · obtain ⟨t, rfl⟩ : ∃ t, r = [t] := by
                  have : r.length = 1 := by have : kindN (⟨#[115, 105, 122, 101]⟩ : Str) = 2 := rfl; omega
                  match r, this with
                  | [t], _ => exact ⟨t, rfl⟩
                rw [own_two n many _ t hp hk rfl (by decide) (by decide)]
                congr 2
                show _ = (decide (1 = 1) && (partB many 116 t && true) && (!decide _ || _))
                rw [part116]
                simp [moreS]
              · obtain ⟨t, rfl⟩ : ∃ t, r = [t] := by
                  have : r.length = 1 := by have : kindN (⟨#[117, 110, 108, 105, 107, 101]⟩ : Str) = 2 := rfl; omega
                  match r, this with
                  | [t], _ => exact ⟨t, rfl⟩
                rw [own_two n many _ t hp hk rfl (by decide) (by decide)]
                congr 2
                show _ = (decide (1 = 1) && (partB many 116 t && true) && (!decide _ || _))
                rw [part116]
                simp [moreS]
              · obtain ⟨t, rfl⟩ : ∃ t, r = [t] := by
                  have : r.length = 1 := by have : kindN (⟨#[108, 111, 110, 103, 101, 115, 116]⟩ : Str) = 2 := rfl; omega
                  match r, this with
                  | [t], _ => exact ⟨t, rfl⟩
                rw [own_two n many _ t hp hk rfl (by decide) (by decide)]
                congr 2
                show _ = (decide (1 = 1) && (partB many 116 t && true) && (!decide _ || _))
                rw [part116]
                simp [moreS]
              · obtain ⟨a, b, t, rfl⟩ : ∃ a b t, r = [a, b, t] := by
                  have : r.length = 3 := by have : kindN (⟨#[109, 111, 114, 101]⟩ : Str) = 4 := rfl; omega
                  match r, this with
                  | [a, b, t], _ => exact ⟨a, b, t, rfl⟩
                rw [show (⟨#[109, 111, 114, 101]⟩ : Str) = moreS from rfl] at *
                rw [own_more n many a b t hp (good_of_tup hd a (by simp)).dp]
                congr 2
                show _ = (decide (3 = 3) && (partB many 115 a && (partB many 115 b && (partB many 116 t && true))) && (!decide (moreS = moreS) || !decide (strOf a = strOf b)))
                rw [part115, part115, part116]
                cases ha : lettersB 1 a with
                | false => simp
                | true =>
                  cases hb : lettersB 1 b with
                  | false => simp
                  | true =>
                    have sa : ∃ x, a = .str x := by cases a <;> first | exact ⟨_, rfl⟩ | cases ha
                    have sb : ∃ x, b = .str x := by cases b <;> first | exact ⟨_, rfl⟩ | cases hb
                    obtain ⟨x, rfl⟩ := sa
                    obtain ⟨y, rfl⟩ := sb
                    rw [eqv_str]
                    by_cases hxy : x = y <;> simp [strOf, hxy]
          · rw [own_short n many k r hp hk hn]
            congr 2
            unfold holeB
            cases hlk : signsTab.lookup k with
            | none => simp only [hlk]
            | some ss =>
              unfold kindN at hn
              rw [hlk] at hn
              have : ¬ r.length = ss.length := fun z => hn (by rw [z])
              simp [hlk, this]
      | dict kvs => exact absurd (plain_tup hp (.dict kvs) (by simp)) (by rw [PyData.plain]; simp)
      | _ =>
        rw [run_at F_l_is_piece, runFn_fin rfl]
        by_cases h2 : (r.length : Int) + 1 < 2
        · simp [F_l_is_piece, startSl, semB, bIsi, isTy, pieceB, holeB, h2]
        · simp [F_l_is_piece, startSl, semB, bIsi, isTy, pieceB, holeB, h2]
  | _ =>
    rw [run_at F_l_is_piece, runFn_fin rfl]
    simp [F_l_is_piece, startSl, semB, bIsi, isTy, pieceB, holeB]
end
end Rf
end
section
set_option linter.all false
set_option maxRecDepth 100000
namespace Rf
open PySem
theorem empty_fil (p : D → Bool) (l : List D) : (l.filterMap fun y => if p y then none else some y).isEmpty = l.all p := by
  induction l with
  | nil => rfl
  | cons c l ih =>
    rw [List.filterMap_cons, List.all_cons]
    by_cases h : p c = true
    · simp [h]; simpa using ih
    · simp [h]
theorem nDiff_len {κ : Type} [DecidableEq κ] : ∀ l : List κ, nDiff l ≤ l.length
  | [] => Nat.le_refl _
  | x :: r => by
    have := nDiff_len r
    unfold nDiff
    split
    · simp; omega
    · simp; omega
section
variable {P : Nat → Option Fn}
theorem run_own_system [At P 20 F_l_holes] [At P 24 F_l_letters] [At P 25 F_l_is_piece] [At P 26 F_l_is_system] (n : Nat) (d : D) (hd : Gud 53 d) : run P (n + 3) 26 [.d d] = .ok (.bool (sysB d)) [] := by
  have big := sizeLine_ge
  have hp := hd.pl
  rw [run_at F_l_is_system, runFn_fin rfl]
  cases d with
  | dict kvs => rw [PyData.plain] at hp; cases hp
  | tuple xs =>
    match xs, hd, hp with
    | [], _, _ => simp [F_l_is_system, startSl, semB, bIsi, isTy, sysB]
    | [x], _, _ => simp [F_l_is_system, startSl, semB, bIsi, isTy, sysB]
    | x :: y :: z :: r, _, _ =>
      have : ¬ ((r.length : Int) + 1 + 1 + 1 = 2) := by omega
      simp [F_l_is_system, startSl, semB, bIsi, isTy, sysB, this]
    | [a, b], hd, hp =>
      have hab := plain_tup hp
      have hc : evalE (run P (n + 2)) (.comp (.var 4) (.nm 4) (.seq (.var 0)) (.some (.not_ (.bi (.isi .tuple) (.cons (.val (.var 4)) .nil)))) [4]) [some (.d (.tuple [a, b])), none, none, none, none] = .ok (.list ([a, b].filterMap fun y => if isTy .tuple y then none else some y)) [some (.d (.tuple [a, b])), none, none, none, none] := by
        refine evE_compT [a, b] id _ (by simp) (by simp) (by simp) (by simp) fun y hy => ?_
        have hny := plain_nd (hab y hy)
        have hb : bIsi .tuple [y] = some (.bool (isTy .tuple y)) := by
          cases y <;> first | rfl | exact absurd rfl (hny _)
        cases h : isTy .tuple y with
        | true => exact ⟨_, by simp [turnW, semB, hb, h]; rfl, by simp⟩
        | false => exact ⟨_, by simp [turnW, semB, hb, h]; rfl, by simp⟩
      have hte := empty_fil (isTy .tuple) [a, b]
      generalize ([a, b].filterMap fun y => if isTy .tuple y then none else some y) = l1 at hc hte
      simp only [List.all_cons, List.all_nil, Bool.and_true] at hte
      by_cases ht : isTy .tuple a = true ∧ isTy .tuple b = true
      · have ea : ∃ ns, a = .tuple ns := by
          have := ht.1
          cases a <;> first | exact ⟨_, rfl⟩ | cases this
        have eb : ∃ fs, b = .tuple fs := by
          have := ht.2
          cases b <;> first | exact ⟨_, rfl⟩ | cases this
        obtain ⟨ns, rfl⟩ := ea
        obtain ⟨fs, rfl⟩ := eb
        have hl1 : truth (.list l1) = false := by rw [truth_list, hte, ht.1, ht.2]; rfl
        have hns := plain_tup (hab (.tuple ns) (by simp))
        have hfs := plain_tup (hab (.tuple fs) (by simp))
        by_cases g1 : 0 < ns.length
        · by_cases g2 : (ns.length : Int) ≤ 20
          · have g2n : ns.length ≤ 20 := by omega
            have g1n : 1 ≤ ns.length := g1
            have hcB : evalE (run P (n + 2)) (.comp (.var 4) (.nm 4) (.seq (.var 2)) (.some (.not_ (.call 24 (.cons (.val (.var 4)) (.cons (.val (.const (.int 9))) .nil))))) [4]) [some (.d (.tuple [.tuple ns, .tuple fs])), none, some (.d (.tuple ns)), some (.d (.tuple fs)), none] = .ok (.list (ns.filterMap fun y => if wordD y then none else some y)) [some (.d (.tuple [.tuple ns, .tuple fs])), none, some (.d (.tuple ns)), some (.d (.tuple fs)), none] := by
              refine evE_compT ns id _ (by simp) (by simp) (by simp) (by omega) fun y hy => ?_
              have hr : run P (n + 2) 24 [.d y, .d (.int 9)] = .ok (.bool (wordD y)) [] := by
                have := run_letters (P := P) (n + 1) y 9 (by omega) (plain_nd (hns y hy))
                rw [letters9] at this
                exact this
              cases h : wordD y with
              | true => exact ⟨_, by simp [turnW, hr, h]; rfl, by simp⟩
              | false => exact ⟨_, by simp [turnW, hr, h]; rfl, by simp⟩
            have hteB := empty_fil wordD ns
            generalize (ns.filterMap fun y => if wordD y then none else some y) = l2 at hcB hteB
            cases hw : ns.all wordD with
            | false =>
              have hl2 : truth (.list l2) = true := by rw [truth_list, hteB, hw]; rfl
              have hnn : numsD (.tuple ns) = false := by simp [numsD, hw]
              simp [F_l_is_system, startSl, semB, bIsi, isTy, hc, hl1, g1, g2, hcB, hl2, sysB, hnn]
            | true =>
              have hl2 : truth (.list l2) = false := by rw [truth_list, hteB, hw]; rfl
              have e3 := strs_of_words hw
              have lt : ns.length < 4000 := by omega
              have nd := nDiff_len (ns.map strOf)
              rw [List.length_map] at nd
              by_cases hdf : nDiff (ns.map strOf) < ns.length
              · have hdn : ¬ nDiff (ns.map strOf) = ns.length := by omega
                have hnn : numsD (.tuple ns) = false := by simp [numsD, hdn]
                simp [F_l_is_system, startSl, semB, bIsi, isTy, hc, hl1, g1, g2, hcB, hl2, sysB, hnn, bLenset, e3, lt, hdf]
              · have hdn : nDiff (ns.map strOf) = ns.length := by omega
                have hnn : numsD (.tuple ns) = true := by simp [numsD, hdn, hw, g1n, g2n]
                by_cases k1 : 0 < fs.length
                · by_cases k2 : (fs.length : Int) < 4
                  · have k1n : 1 ≤ fs.length := k1
                    have k2n : fs.length ≤ 3 := by omega
                    simp [F_l_is_system, startSl, semB, bIsi, isTy, hc, hl1, g1, g2, hcB, hl2, bLenset, e3, lt, hdf, k1, k2]
                    have gfs := good_of_tup (good_of_tup hd (.tuple fs) (by simp))
                    refine for_find (fun sl => ∃ y, sl = [some (X.d (.tuple [.tuple ns, .tuple fs])), y, some (.d (.tuple ns)), some (.d (.tuple fs)), none]) (fun x => if formB fs.length x then none else some (.bool false)) ?_ ⟨none, rfl⟩ ?_ ?_
                    · rintro x hx sl ⟨y, rfl⟩
                      have gx := gfs x hx
                      have hpx := gx.pl
                      cases x with
                      | dict kvs => rw [PyData.plain] at hpx; cases hpx
                      | tuple ps =>
                        by_cases m1 : 0 < ps.length
                        · by_cases m2 : (ps.length : Int) ≤ 12
                          · have q1 : 1 ≤ ps.length := m1
                            have q2 : ps.length ≤ 12 := by omega
                            have gps := good_of_tup gx
                            have hcC : evalE (run P (n + 2)) (.comp (.var 4) (.nm 4) (.seq (.var 1)) (.some (.not_ (.call 25 (.cons (.val (.var 4)) (.cons (.val (.bi .len (.cons (.val (.var 3)) .nil))) .nil))))) [4]) [some (X.d (.tuple [.tuple ns, .tuple fs])), some (.d (.tuple ps)), some (.d (.tuple ns)), some (.d (.tuple fs)), none] =
                                .ok (.list (ps.filterMap fun y => if pieceB fs.length y then none else some y)) [some (X.d (.tuple [.tuple ns, .tuple fs])), some (.d (.tuple ps)), some (.d (.tuple ns)), some (.d (.tuple fs)), none] := by
                              refine evE_compT ps id _ (by simp) (by simp) (by simp) (by omega) fun y hy => ?_
                              have hr := run_own_piece (P := P) n fs.length y ((gps y hy).mono (by omega))
                              cases h : pieceB fs.length y with
                              | true => exact ⟨_, by simp [turnW, semB, hr, h]; rfl, by simp⟩
                              | false => exact ⟨_, by simp [turnW, semB, hr, h]; rfl, by simp⟩
                            have hteC := empty_fil (pieceB fs.length) ps
                            generalize (ps.filterMap fun y => if pieceB fs.length y then none else some y) = l3 at hcC hteC
                            have hl3 : truth (.list l3) = !ps.all (pieceB fs.length) := by rw [truth_list, hteC]
                            cases hall : ps.all (pieceB fs.length) with
                            | true =>
                              rw [hall] at hl3
                              exact .inr ⟨by simp [formB, q1, q2, hall], _, by simp [semB, bIsi, isTy, m1, m2, hcC, hl3]; rfl, _, rfl⟩
                            | false =>
                              rw [hall] at hl3
                              exact .inl ⟨_, _, by simp [formB, q1, q2, hall]; rfl, by simp [semB, bIsi, isTy, m1, m2, hcC, hl3]; rfl, rfl⟩
                          · have q2 : ¬ ps.length ≤ 12 := by omega
                            exact .inl ⟨_, _, by simp [formB, q2]; rfl, by simp [semB, bIsi, isTy, m1, m2]; rfl, rfl⟩
                        · have q1 : ¬ 1 ≤ ps.length := m1
                          exact .inl ⟨_, _, by simp [formB, q1]; rfl, by simp [semB, bIsi, isTy, m1]; rfl, rfl⟩
                      | _ => exact .inl ⟨_, _, by simp [formB]; rfl, by simp [semB, bIsi, isTy]; rfl, rfl⟩
                    · intro d hd
                      obtain ⟨x, hx, hbad⟩ := List.exists_of_findSome?_eq_some hd
                      split at hbad
                      · cases hbad
                      · rename_i hf
                        obtain rfl := Option.some.inj hbad
                        have : fs.all (formB fs.length) = false := by
                          rw [List.all_eq_false]
                          exact ⟨x, hx, hf⟩
                        simp [sysB, this]
                    · rintro hnone sl' ⟨y, rfl⟩
                      have hff : fs.all (formB fs.length) = true := by
                        rw [List.all_eq_true]
                        intro x hx
                        have := List.findSome?_eq_none_iff.mp hnone x hx
                        split at this
                        · assumption
                        · cases this
                      obtain ⟨gs, e, hgs⟩ := forms_enc hff
                      subst e
                      have hol := run_l_holes (P := P) (n + 1) (.tuple ns) gs (by rw [List.length_map] at k2n; omega) (fun f hf => by have := (hgs f hf).2.1; omega)
                      have hN := holesN_enc gs
                      generalize (gs.flatMap fun f => f.filter (!·.isSay)) = HS at hol hN
                      simp [semB, hol]
                      rw [List.length_map] at k1n k2n hff
                      have e6 : decide ((HS.length : Int) ≤ 6) = decide (HS.length ≤ 6) := by rw [decide_eq_decide]; omega
                      by_cases m1 : 0 < HS.length
                      · have l1 : 1 ≤ HS.length := m1
                        simp [m1, sysB, hnn, k1n, k2n, hff, hN, l1, e6]
                      · have l1 : ¬ 1 ≤ HS.length := m1
                        simp [m1, sysB, hN, l1]
                  · have k2n : ¬ fs.length ≤ 3 := by omega
                    simp [F_l_is_system, startSl, semB, bIsi, isTy, hc, hl1, g1, g2, hcB, hl2, sysB, hnn, bLenset, e3, lt, hdf, k1, k2, k2n]
                · have k1n : ¬ 1 ≤ fs.length := k1
                  simp [F_l_is_system, startSl, semB, bIsi, isTy, hc, hl1, g1, g2, hcB, hl2, sysB, hnn, bLenset, e3, lt, hdf, k1, k1n]
          · have g2n : ¬ ns.length ≤ 20 := by omega
            have hnn : numsD (.tuple ns) = false := by simp [numsD, g2n]
            simp [F_l_is_system, startSl, semB, bIsi, isTy, hc, hl1, g1, g2, sysB, hnn]
        · have g1n : ¬ 1 ≤ ns.length := g1
          have hnn : numsD (.tuple ns) = false := by simp [numsD, g1n]
          simp [F_l_is_system, startSl, semB, bIsi, isTy, hc, hl1, g1, sysB, hnn]
      · have hl1 : truth (.list l1) = true := by
          rw [truth_list, hte]
          cases ha : isTy .tuple a <;> cases hb : isTy .tuple b <;> simp_all
        have hs : sysB (.tuple [a, b]) = false := by
          unfold sysB
          split
          · rename_i a' fs' h
            injection h with h
            injection h with h1 h2
            injection h2 with h2 h3
            subst h1; subst h2
            have : ¬ isTy .tuple a = true := fun z => ht ⟨z, rfl⟩
            have hnn : numsD a = false := by
              cases a <;> first | rfl | exact absurd rfl this
            simp [hnn]
          · rfl
        simp [F_l_is_system, startSl, semB, bIsi, isTy, hc, hl1, hs]
  | _ => simp [F_l_is_system, startSl, semB, bIsi, isTy, sysB]
end
end Rf
end
section
set_option linter.all false
set_option maxRecDepth 100000
namespace Rf
open PySem
@[simp] theorem restoreSl_nil (sl sl' : Sl) : restoreSl sl sl' [] = sl' := rfl
@[simp] theorem restoreSl_cons (sl sl' : Sl) (v : Nat) (vs : List Nat) : restoreSl sl sl' (v :: vs) = (restoreSl sl sl' vs).set v (sl[v]?.getD none) := rfl
theorem wp_compLoop {turn : D → Sl → R (Option D)} {Q : List D → Sl → Prop} : ∀ {xs : List D} {acc : List D} {sl : Sl} (I : Nat → List D → Sl → Prop), (∀ i x acc sl, xs[i]? = some x → I i acc sl → (turn x sl).wp fun r sl' => I (i + 1) (acc ++ r.toList) sl') → acc.length + xs.length ≤ sizeLine → I 0 acc sl → (∀ ys sl', I xs.length ys sl' → Q ys sl') → (compLoop turn xs acc sl).wp Q
  | [], acc, sl, I, _, _, h0, hn => hn acc sl h0
  | x :: xs, acc, sl, I, h, hl, h0, hn => by
    have h1 := h 0 x acc sl rfl h0
    rw [List.length_cons] at hl
    unfold compLoop
    revert h1
    cases turn x sl with
    | exc c s => exact fun z => z.elim
    | stuck => exact fun z => z.elim
    | ok r s =>
      intro h1
      cases r with
      | none =>
        have h1 : I 1 (acc ++ []) s := h1
        rw [List.append_nil] at h1
        exact wp_compLoop (fun i => I (i + 1)) (fun i y a s hy hi => h (i + 1) y a s (by simpa using hy) hi) (by omega) h1 hn
      | some y =>
        dsimp only
        rw [if_pos (by omega)]
        exact wp_compLoop (fun i => I (i + 1)) (fun i y a s hy hi => h (i + 1) y a s (by simpa using hy) hi) (by simp; omega) h1 hn
theorem wp_comp {Γ : Nat → List X → CR} {elt : L} {t : T} {it : I} {cond : Ol} {own : List Nat} {sl sl0 : Sl} {xs : List D} {Q : D → Sl → Prop} (J : Nat → List D → Sl → Prop) (hi : evalI Γ it sl = .ok xs sl0) (hd : own.all (isData sl0) = true) (hl : xs.length ≤ sizeLine)
    (hx : ∀ i x acc sl, xs[i]? = some x → J i acc sl → (turnW Γ elt t cond x (wipeSl sl own)).wp fun r sl' => J (i + 1) (acc ++ r.toList) sl') (h0 : J 0 [] sl0) (hn : ∀ ys sl', J xs.length ys sl' → Q (.list ys) (restoreSl sl0 sl' own)) : (evalE Γ (.comp elt t it cond own) sl).wp Q := by
  rw [evE_comp_eq, hi, R.bind_ok, if_pos hd]
  show ((compLoop (fun x sl => turnW Γ elt t cond x (wipeSl sl own)) xs [] sl0).bnd fun ys sl => R.ok (.list ys) (restoreSl sl0 sl own)).wp Q
  rw [R.wp_bnd]
  exact wp_compLoop (turn := fun x sl => turnW Γ elt t cond x (wipeSl sl own)) (xs := xs) (acc := []) J hx (by simpa using hl) h0 fun ys sl' h => hn ys sl' h
/-- what the law hands to is_filling -/
inductive Thing : D → Prop where
  | tup (xs : List D) (h : xs.length ≤ 100) (hx : ∀ x ∈ xs, (∃ i, x = .int i) ∨ ∃ b, x = .bool b) : Thing (.tuple xs)
  | lst (xs : List D) (hx : ∀ x ∈ xs, ∃ i : Int, x = .int i) : Thing (.list xs)
  | none : Thing .none
theorem thing_plain {d : D} (h : Thing d) : d.plain = true := by
  cases h with
  | tup xs hl hx =>
    rw [PyData.plain]
    exact plainAll_of fun x h => by
      rcases hx x h with ⟨i, rfl⟩ | ⟨b, rfl⟩ <;> rw [PyData.plain]
  | lst xs hx =>
    rw [PyData.plain]
    exact plainAll_of fun x h => by
      obtain ⟨i, rfl⟩ := hx x h
      rw [PyData.plain]
  | none => rw [PyData.plain]
theorem ones_empty {α : Type} (p : α → Bool) (l : List α) : (l.filterMap fun y => if p y then some (PyData.int 1) else none).isEmpty = l.all (!p ·) := by
  induction l with
  | nil => rfl
  | cons c l ih =>
    rw [List.filterMap_cons, List.all_cons]
    by_cases h : p c = true
    · simp [h]
    · simp [h]; simpa using ih
theorem ones_plain {α : Type} (p : α → Bool) (l : List α) : ∀ x ∈ (l.filterMap fun y => if p y then some (PyData.int 1) else none), x.plain = true := fun x hx => by
  obtain ⟨y, _, h⟩ := List.mem_filterMap.mp hx
  split at h
  · cases h; rw [PyData.plain]
  · cases h
theorem sEqB_ones {α : Type} (p : α → Bool) (l : List α) : sEqB (.list (l.filterMap fun y => if p y then some (PyData.int 1) else none)) (.list []) = some (l.all (!p ·)) := by
  rw [sEqB_lnil _ (ones_plain p l), ones_empty]
def inB : D × Nat → Bool
  | (.int i, s) => decide (0 ≤ i) && decide (i < (s : Int))
  | _ => false
theorem fill_tup (S : Sys) (xs : List D) : fillB S (.tuple xs) = (decide (xs.length = S.sizes.length) && (List.zip xs S.sizes).all inB) := by
  unfold fillB
  dsimp only
  congr 2
  funext p
  obtain ⟨x, s⟩ := p
  cases x <;> rfl
section
variable {P : Nat → Option Fn}
theorem fill_turn [At P 0 F_is_whole] [At P 7 F_holes_of] [At P 8 F_words_for] [At P 9 F_sizes_of] [At P 10 F_is_filling] [At P 12 F_l_same] (n : Nat) (S : Sys) (hS : S.Small) (hh : S.holes.length ≤ 100) (d : D) (hd : Thing d) (a0 a1 a4 a6 a7 x8 x9 : Option X) (x5 : Option D) (N : Sl → Prop) (T : D → Sl → Prop)
    (hN : ∀ b : Bool, N [a0, a1, some (.d S.enc), some (.d (.list (S.sizes.map fun k => .int (k : Nat)))), a4, x5.map .d, a6, a7, some (.d d), some (.d (.bool b)), none, none]) :
    (forB (run P (n + 3)) (.nm 8) (.cons (.asg (.nm 9) (.and_ (.bi (.isi .tuple) (.cons (.val (.var 8)) .nil)) (.op .eq (.val (.bi .len (.cons (.val (.var 8)) .nil))) (.val (.bi .len (.cons (.val (.var 3)) .nil))))))
    (.cons (.asg (.nm 9) (.and_ (.var 9) (.op .eq (.val (.comp (.const (.int 1)) (.nm 11) (.seq (.var 8)) (.some (.bi (.isi .bool) (.cons (.val (.var 11)) .nil))) [11])) (.val (.lst .nil)))))
    (.cons (.asg (.nm 9) (.and_ (.var 9) (.op .eq (.val (.comp (.const (.int 1)) (.tp [11, 5]) (.zip (.var 8) (.var 3)) (.some (.not_ (.chain .le .lt (.const (.int 0)) (.var 11) (.var 5)))) [11, 5])) (.val (.lst .nil)))))
    (.cons (.ite (.not_ (.call 12 (.cons (.val (.call 10 (.cons (.val (.var 2)) (.cons (.val (.var 8)) .nil)))) (.cons (.val (.var 9)) .nil)))) (.cons (.ret (.const (.bool false)))
    .nil) .nil)
    .nil)))) d [a0, a1, some (.d S.enc), some (.d (.list (S.sizes.map fun k => .int (k : Nat)))), a4, x5.map .d, a6, a7, x8, x9, none, none]).wp N T := by
  have big := sizeLine_ge
  have hf := run_is_filling (P := P) n S hS d (thing_plain hd)
  have hs : ∀ b : Bool, run P (n + 3) 12 [.d (.bool b), .d (.bool b)] = .ok (.bool true) [] := fun b => by
    have := run_same_bool (P := P) (n + 2) b b
    simpa using this
  have hsl : S.sizes.length = S.holes.length := by unfold Sys.sizes; rw [List.length_map]
  cases hd with
  | none =>
    have hf : run P (n + 3) 10 [.d S.enc, .d .none] = .ok (.bool false) [] := hf
    simp [semB, bIsi, isTy, hf, hs]
    exact hN _
  | lst xs hx =>
    have hf : run P (n + 3) 10 [.d S.enc, .d (.list xs)] = .ok (.bool false) [] := hf
    simp [semB, bIsi, isTy, hf, hs]
    exact hN _
  | tup xs hl hx =>
    rw [fill_tup] at hf
    by_cases h1 : xs.length = S.sizes.length
    · have hcb : evalE (run P (n + 3)) (.comp (.const (.int 1)) (.nm 11) (.seq (.var 8)) (.some (.bi (.isi .bool) (.cons (.val (.var 11)) .nil))) [11]) [a0, a1, some (.d S.enc), some (.d (.list (S.sizes.map fun k => .int (k : Nat)))), a4, x5.map .d, a6, a7, some (.d (.tuple xs)), some (.d (.bool true)), none, none] = .ok (.list (xs.filterMap fun y => if isTy .bool y then some (.int 1) else none)) [a0, a1, some (.d S.enc), some (.d (.list (S.sizes.map fun k => .int (k : Nat)))), a4, x5.map .d, a6, a7, some (.d (.tuple xs)), some (.d (.bool true)), none, none] := by
        refine evE_compT xs id _ (by simp) (by simp) (by simp) (by omega) fun y hy => ?_
        rcases hx y hy with ⟨i, rfl⟩ | ⟨b, rfl⟩
        · exact ⟨_, by simp [turnW, semB, bIsi, isTy]; rfl, by simp⟩
        · exact ⟨_, by simp [turnW, semB, bIsi, isTy]; rfl, by simp⟩
      have heb := sEqB_ones (isTy .bool) xs
      generalize (xs.filterMap fun y => if isTy .bool y then some (PyData.int 1) else none) = l1 at hcb heb
      cases hb : xs.all (!isTy .bool ·) with
      | false =>
        have hz : (List.zip xs S.sizes).all inB = false := by
          rw [List.all_eq_false] at hb ⊢
          obtain ⟨y, hy, hyb⟩ := hb
          obtain ⟨i, hi, rfl⟩ := List.getElem_of_mem hy
          refine ⟨(xs[i], S.sizes[i]), ?_, ?_⟩
          · have : (List.zip xs S.sizes)[i]'(by rw [List.length_zip]; omega) = (xs[i], S.sizes[i]) := List.getElem_zip
            rw [← this]
            exact List.getElem_mem _
          · rcases hx xs[i] hy with ⟨j, e⟩ | ⟨b, e⟩
            · rw [e] at hyb; exact absurd rfl hyb
            · rw [e]; simp [inB]
        rw [hb] at heb
        rw [hz] at hf
        simp [semB, bIsi, isTy, h1, hcb, heb, oB]
        rw [h1] at hf
        simp at hf
        simp [hf, hs]
        exact hN _
      | true =>
        rw [hb] at heb
        have hint : ∀ x ∈ xs, ∃ i, x = .int i := fun x hxm => by
          rcases hx x hxm with h | ⟨b, rfl⟩
          · exact h
          · have := List.all_eq_true.mp hb _ hxm
            cases this
        have hcz : evalE (run P (n + 3)) (.comp (.const (.int 1)) (.tp [11, 5]) (.zip (.var 8) (.var 3)) (.some (.not_ (.chain .le .lt (.const (.int 0)) (.var 11) (.var 5)))) [11, 5]) [a0, a1, some (.d S.enc), some (.d (.list (S.sizes.map fun k => .int (k : Nat)))), a4, x5.map .d, a6, a7, some (.d (.tuple xs)), some (.d (.bool true)), none, none] = .ok (.list ((List.zip xs S.sizes).filterMap fun y => if !inB y then some (.int 1) else none)) [a0, a1, some (.d S.enc), some (.d (.list (S.sizes.map fun k => .int (k : Nat)))), a4, x5.map .d, a6, a7, some (.d (.tuple xs)), some (.d (.bool true)), none, none] := by
          refine evE_compT (List.zip xs S.sizes) (fun p => .tuple [p.1, .int (p.2 : Nat)]) _ (by simp [zipD_map]) (by cases x5 <;> simp) (by simp) (by rw [List.length_zip]; omega) fun p hp2 => ?_
          obtain ⟨i, hi⟩ := hint p.1 (List.of_mem_zip hp2).1
          obtain ⟨x, s⟩ := p
          dsimp only at hi
          subst hi
          by_cases z0 : 0 ≤ i
          · by_cases z1 : i < (s : Int)
            · exact ⟨_, by simp [turnW, inB, z0, z1]; rfl, by simp⟩
            · exact ⟨_, by simp [turnW, inB, z0, z1]; rfl, by simp⟩
          · exact ⟨_, by simp [turnW, inB, z0]; rfl, by simp⟩
        have hez := sEqB_ones (fun y => !inB y) (List.zip xs S.sizes)
        generalize ((List.zip xs S.sizes).filterMap fun y => if !inB y then some (PyData.int 1) else none) = l2 at hcz hez
        have e3 : ((List.zip xs S.sizes).all fun y => !(!inB y)) = (List.zip xs S.sizes).all inB := by congr 1; funext y; simp
        rw [e3] at hez
        generalize (List.zip xs S.sizes).all inB = q at hez hf
        rw [h1] at hf
        simp at hf
        simp [semB, bIsi, isTy, h1, hcb, heb, hcz, hez, oB, hf, hs]
        exact hN _
    · have h2 : ¬ ((xs.length : Int) = (S.sizes.length : Int)) := by omega
      simp [h1] at hf
      simp [semB, bIsi, isTy, h1, h2, hf, hs]
      exact hN _
end
end Rf
end
section
set_option linter.all false
set_option maxRecDepth 100000
namespace Rf
open PySem
def prodTo (l : List Nat) (k : Nat) : Int := ((l.take k).prod : Nat)
theorem prodTo_zero (l : List Nat) : prodTo l 0 = 1 := by simp [prodTo]
theorem prodTo_succ {l : List Nat} {k s : Nat} (h : l[k]? = some s) : prodTo l (k + 1) = prodTo l k * (s : Int) := by
  unfold prodTo
  rw [List.take_add_one, h]
  simp
theorem prodTo_all (l : List Nat) : prodTo l l.length = (l.prod : Nat) := by simp [prodTo]
theorem mulOk_r {i j : Int} (h1 : -(2 ^ 64) < j) (h2 : j < 2 ^ 64) : mulOk i j = true := by
  unfold mulOk
  simp only [Bool.or_eq_true, Bool.and_eq_true, decide_eq_true_eq]
  exact .inr ⟨h1, h2⟩
theorem times_turn2 (N : Sl → Prop) (T : D → Sl → Prop) (Γ : Nat → List X → CR) (a0 a1 a2 a3 a5 : Option X) (r : Sl) (q s : Int) (h : mulOk q s = true) (hn : N (a0 :: a1 :: a2 :: a3 :: some (.d (.int (q * s))) :: some (.d (.int s)) :: r)) : (forB Γ (.nm 5) (.cons (.asg (.nm 4) (.op .mul (.val (.var 4)) (.val (.var 5)))) .nil) (.int s) (a0 :: a1 :: a2 :: a3 :: some (.d (.int q)) :: a5 :: r)).wp N T := by
  simp [sMul_int h]
  exact hn
section
variable {P : Nat → Option Fn}
structure Sys.Fair (S : Sys) : Prop where
  sm : S.Small
  hl : S.holes.length ≤ 8
  sz : ∀ s ∈ S.sizes, 1 ≤ s ∧ s ≤ 20
  hs : Sm 2 (.tuple (S.holes.map Piece.enc))
theorem draws_filling [At P 0 F_is_whole] [At P 7 F_holes_of] [At P 8 F_words_for] [At P 9 F_sizes_of] [At P 10 F_is_filling] [At P 11 F_how_many] [At P 12 F_l_same] [At P 13 F_l_draw] [At P 20 F_l_holes] [At P 21 F_l_words] [At P 27 F_l_filling_holds] (n : Nat) (ns : List Int) (hns : ns.length ≤ 63) (S : Sys) (hS : S.Fair) : Draws P (n + 4) 27 ns [S.enc] 20 fun d => d = .bool true := by
  intro ts hts
  have big := sizeLine_ge
  have hsl : S.sizes.length = S.holes.length := by unfold Sys.sizes; rw [List.length_map]
  have hl8 := hS.hl
  rw [run_at F_l_filling_holds, runFn_fin rfl]
  have hc3 : evalE (run P (n + 3)) (.comp (.bi .len (.cons (.val (.call 21 (.cons (.val (.var 2)) (.cons (.val (.var 10)) .nil)))) .nil)) (.nm 10) (.seq (.call 20 (.cons (.val (.var 2)) .nil))) .none [10]) [some (.d (scr ns)), some (.cell false (town ts)), some (.d S.enc), none, none, none, none, none, none, none, none, none] = .ok (.list (S.sizes.map fun k => .int (k : Nat))) [some (.d (scr ns)), some (.cell false (town ts)), some (.d S.enc), none, none, none, none, none, none, none, none, none] := by
    have e : (S.sizes.map fun k => PyData.int (k : Nat)) = S.holes.map fun p => .int ((S.words p).length : Nat) := by
      unfold Sys.sizes; rw [List.map_map]; rfl
    rw [e]
    exact evE_compM S.holes Piece.enc (fun p => .int ((S.words p).length : Nat)) (by simp [l_holes_enc (n + 2) S hS.sm]) (by simp) (by simp) (by omega) fun p _ => ⟨_, by simp [turnW, semB, run_l_words (n + 2) S p]; rfl, by simp⟩
  simp [F_l_filling_holds, startSl, hc3]
  obtain ⟨I, hI⟩ : ∃ I : Nat → Sl → Prop, I = fun k sl => ∃ x5 : Option D, sl = [some (.d (scr ns)), some (.cell false (town ts)), some (.d S.enc), some (.d (.list (S.sizes.map fun k => .int (k : Nat)))), some (.d (.int (prodTo S.sizes k))), x5.map .d, none, none, none, none, none, none] := ⟨_, rfl⟩
  refine wp_for I ?_ (by rw [hI]; exact ⟨none, by rw [prodTo_zero]; rfl⟩) ?_
  · intro k x sl hx hs2
    rw [hI] at hs2
    obtain ⟨x5, rfl⟩ := hs2
    rw [List.getElem?_map] at hx
    obtain ⟨s, hx2, rfl⟩ := Option.map_eq_some_iff.mp hx
    have hsm := hS.sz s (List.mem_of_getElem? hx2)
    have hmo : mulOk (prodTo S.sizes k) (s : Int) = true := mulOk_r (by omega) (by omega)
    have hnx := prodTo_succ hx2
    generalize (s : Int) = ss at hmo hnx ⊢
    generalize hk1 : prodTo S.sizes (k + 1) = q2 at hnx
    generalize prodTo S.sizes k = q1 at hmo hnx ⊢
    refine times_turn2 (I (k + 1)) _ _ _ _ _ _ _ _ _ ss hmo ?_
    rw [hI]
    exact ⟨some (.int ss), by rw [hk1, hnx]; rfl⟩
  · intro sl hs2
    rw [hI] at hs2
    obtain ⟨x5, rfl⟩ := hs2
    rw [List.length_map, prodTo_all]
    generalize hpr : ((S.sizes.prod : Nat) : Int) = pr
    simp
    obtain ⟨J, hJ⟩ : ∃ J : Nat → List D → Sl → Prop, J = fun i acc sl => ∃ (ts' : List Int) (x5 : Option D) (ws : List Int), sl = [some (.d (scr ns)), some (.cell false (town ts')), some (.d S.enc), some (.d (.list (S.sizes.map fun k => .int (k : Nat)))), some (.d (.int pr)), x5.map .d, none, none, none, none, none, none] ∧ ts'.length ≤ ts.length + 2 * i ∧ acc = ws.map .int ∧ ws.length = i := ⟨_, rfl⟩
    refine wp_comp J (xs := S.sizes.map fun k => .int (k : Nat)) (by simp; rfl) (by cases x5 <;> simp) (by rw [List.length_map]; omega) ?_ (by rw [hJ]; exact ⟨ts, x5, [], rfl, by omega, rfl, rfl⟩) ?_
    · intro i x acc sl hx hj
      rw [hJ] at hj
      obtain ⟨t2, x5, ws, rfl, w1, rfl, w2⟩ := hj
      rw [List.getElem?_map] at hx
      obtain ⟨s, hx2, rfl⟩ := Option.map_eq_some_iff.mp hx
      have hsm := hS.sz s (List.mem_of_getElem? hx2)
      have hil := (List.getElem?_eq_some_iff.mp hx2).1
      simp [turnW]
      refine wp_draws (args := [.int (s : Nat)]) (draws_draw (n + 2) ns _ hns (by omega)) rfl (by omega) ?_
      rintro _ t3 h3 ⟨r, rfl, r0, r1⟩
      simp
      rw [hJ]
      exact ⟨t3, some (.int (s : Nat)), ws ++ [r], rfl, by omega, by simp, by simp [w2]⟩
    · intro ys sl hj
      rw [hJ] at hj
      obtain ⟨t2, x5', ws, rfl, w1, rfl, w2⟩ := hj
      rw [List.length_map] at w1 w2
      have c1 : (cut (ws.map PyData.int) (some 1) none).length ≤ 8 := by
        have := cut_len (xs := ws.map PyData.int) (lo := some 1) (hi := none)
        rw [List.length_map] at this
        omega
      have hci : ∀ y ∈ cut (ws.map PyData.int) (some 1) none, ∃ i, y = .int i := fun y hy => by
        obtain ⟨i, _, rfl⟩ := List.mem_map.mp (cut_sub y hy)
        exact ⟨i, rfl⟩
      have hwi : ∀ y ∈ ws.map PyData.int, ∃ i, y = .int i := fun y hy => by
        obtain ⟨i, _, rfl⟩ := List.mem_map.mp hy
        exact ⟨i, rfl⟩
      generalize hcw : cut (ws.map PyData.int) (some 1) none = cw at c1 hci
      have b0 : sAdd (.tuple (ws.map .int)) (.tuple [.int 0]) = some (.tuple (ws.map .int ++ [.int 0])) := sAdd_tup (by simp; omega)
      have b1 : ∀ y, sAdd (.tuple cw) (.tuple [y]) = some (.tuple (cw ++ [y])) := fun y => sAdd_tup (by simp; omega)
      simp [semB, bTuple, bList, b0, b1, sCut, hcw, sAdd_lst]
      have things : ∀ y ∈ [PyData.tuple (ws.map .int), .list (ws.map .int), .none, .tuple (ws.map .int ++ [.int 0]), .tuple cw, .tuple (S.sizes.map fun k => .int (k : Nat)), .tuple (cw ++ [.bool true]), .tuple (cw ++ [.int (-1)]), .tuple []], Thing y := by
        intro y hy
        simp only [List.mem_cons, List.not_mem_nil, or_false] at hy
        rcases hy with rfl | rfl | rfl | rfl | rfl | rfl | rfl | rfl | rfl
        · exact .tup _ (by simp; omega) fun x hx => .inl (hwi x hx)
        · exact .lst _ hwi
        · exact .none
        · exact .tup _ (by simp; omega) fun x hx => by
            rcases List.mem_append.mp hx with hx | hx
            · exact .inl (hwi x hx)
            · rw [List.mem_singleton.mp hx]; exact .inl ⟨_, rfl⟩
        · exact .tup _ (by omega) fun x hx => .inl (hci x hx)
        · exact .tup _ (by simp; omega) fun x hx => by
            obtain ⟨i, _, rfl⟩ := List.mem_map.mp hx
            exact .inl ⟨_, rfl⟩
        · exact .tup _ (by simp; omega) fun x hx => by
            rcases List.mem_append.mp hx with hx | hx
            · exact .inl (hci x hx)
            · rw [List.mem_singleton.mp hx]; exact .inr ⟨_, rfl⟩
        · exact .tup _ (by simp; omega) fun x hx => by
            rcases List.mem_append.mp hx with hx | hx
            · exact .inl (hci x hx)
            · rw [List.mem_singleton.mp hx]; exact .inl ⟨_, rfl⟩
        · exact .tup _ (by simp) fun x hx => by cases hx
      generalize [PyData.tuple (ws.map .int), .list (ws.map .int), .none, .tuple (ws.map .int ++ [.int 0]), .tuple cw, .tuple (S.sizes.map fun k => .int (k : Nat)), .tuple (cw ++ [.bool true]), .tuple (cw ++ [.int (-1)]), .tuple []] = thl at things
      obtain ⟨K, hK⟩ : ∃ K : Nat → Sl → Prop, K = fun k sl => ∃ x8 x9 : Option X, sl = [some (.d (scr ns)), some (.cell false (town t2)), some (.d S.enc), some (.d (.list (S.sizes.map fun k => .int (k : Nat)))), some (.d (.int pr)), x5.map .d, some (.d (.tuple (ws.map .int))), some (.d (.list thl)), x8, x9, none, none] := ⟨_, rfl⟩
      refine wp_for K ?_ (by rw [hK]; exact ⟨none, none, rfl⟩) ?_
      · intro k x sl hx hk
        rw [hK] at hk
        obtain ⟨x8, x9, rfl⟩ := hk
        refine fill_turn n S hS.sm (by omega) x (things x (List.mem_of_getElem? hx)) _ _ _ _ _ _ _ x5 _ _ fun b => ?_
        rw [hK]
        exact ⟨_, _, rfl⟩
      · intro sl hk
        rw [hK] at hk
        obtain ⟨x8, x9, rfl⟩ := hk
        have h1 := run_how_many (P := P) n S hS.sm fun s hs => (hS.sz s hs).2
        rw [hpr] at h1
        have h2 := run_same_int (P := P) (n + 2) pr pr
        have h3 := holes_of_enc (P := P) (n + 2) S hS.sm
        have h4 := l_holes_enc (P := P) (n + 2) S hS.sm
        have h5 := run_same_self (P := P) n 2 _ hS.hs
        simp at h2
        simp [h1, h2, h3, h4, h5, semB, bTuple]
        exact fin_town rfl ⟨t2, rfl, by omega, rfl⟩
end
end Rf
end
section
set_option linter.all false
set_option maxRecDepth 100000
namespace Rf
open PySem
theorem piece_sm {p : Piece} {many : Nat} (h : p.okB many = true) (hm : many ≤ 20) : Sm 1 p.enc := by
  cases p <;> simp [Piece.okB] at h <;> simp [Piece.enc, Sm] <;> omega
theorem dok_sm {S : Sys} {most holes : Nat} (hS : DOk S most holes) (hm : most ≤ 20) (hh : holes ≤ 20) : Sm 4 S.enc := by
  have n2 := hS.n2
  have f2 := hS.f2
  refine ⟨by simp, fun x hx => ?_⟩
  simp only [List.mem_cons, List.not_mem_nil, or_false] at hx
  rcases hx with rfl | rfl
  · refine ⟨by simp; omega, fun y hy => ?_⟩
    obtain ⟨w, _, rfl⟩ := List.mem_map.mp hy
    simp [Sm]
  · refine ⟨by simp; omega, fun y hy => ?_⟩
    obtain ⟨f, hf, rfl⟩ := List.mem_map.mp hy
    refine ⟨by rw [List.length_map]; have := (hS.fl f hf).2; omega, fun z hz => ?_⟩
    obtain ⟨p, hp, rfl⟩ := List.mem_map.mp hz
    exact piece_sm (hS.fp f hf p hp) (by omega)
theorem dok_small {S : Sys} {most holes : Nat} (hS : DOk S most holes) (hm : most ≤ 20) (hh : holes ≤ 20) : S.Small := by
  have n2 := hS.n2
  have f2 := hS.f2
  exact ⟨by omega, by omega, fun f hf => by have := (hS.fl f hf).2; omega⟩
theorem mem_holes {S : Sys} {p : Piece} (h : p ∈ S.holes) : ∃ f ∈ S.forms, p ∈ f ∧ p.isSay = false := by
  obtain ⟨f, hf, hp⟩ := List.mem_flatMap.mp h
  rw [List.mem_filter] at hp
  exact ⟨f, hf, hp.1, by simpa using hp.2⟩
theorem dok_fair {S : Sys} {most holes : Nat} (hS : DOk S most holes) (hm : most ≤ 20) (hh : holes ≤ 8) : S.Fair := by
  have n1 := hS.n1
  have n2 := hS.n2
  have f2 := hS.f2
  have h2 := hS.h2
  refine ⟨dok_small hS hm (by omega), by omega, fun s hs => ?_, ?_⟩
  · obtain ⟨p, _, rfl⟩ := List.mem_map.mp hs
    unfold Sys.words
    split
    · exact ⟨by decide, by decide⟩
    · exact ⟨n1, by omega⟩
  · refine ⟨by rw [List.length_map]; omega, fun y hy => ?_⟩
    obtain ⟨p, hp, rfl⟩ := List.mem_map.mp hy
    obtain ⟨f, hf, hpf, _⟩ := mem_holes hp
    exact piece_sm (hS.fp f hf p hpf) (by omega)
end Rf
end
section
set_option linter.all false
set_option maxRecDepth 100000
namespace Rf
open PySem
theorem F.wp_mono {r : F} {N N' : Sl → Prop} {T T' : D → Sl → Prop} (h : r.wp N T) (i : ∀ sl, N sl → N' sl) (j : ∀ d sl, T d sl → T' d sl) : r.wp N' T' := by
  cases r with
  | nx sl => exact i sl h
  | ret d sl => exact j d sl h
  | brk sl => exact h
  | exc c sl => exact h
  | stuck => exact h
section
variable {Γ : Nat → List X → CR} {s : S} {r : Ss} {sl : Sl} {N : Sl → Prop} {T : D → Sl → Prop}
/-- what holds behind a statement -/
theorem wp_cut (Mid : Sl → Prop) (h : (evalS Γ s sl).wp Mid T) (k : ∀ sl', Mid sl' → (evalSs Γ r sl').wp N T) : (evalSs Γ (.cons s r) sl).wp N T := by
  rw [evSs_cons, F.wp_seq]
  exact F.wp_mono h k fun _ _ z => z
/-- one statement runs -/
theorem wp_next {sl' : Sl} (h : evalS Γ s sl = .nx sl') (k : (evalSs Γ r sl').wp N T) : (evalSs Γ (.cons s r) sl).wp N T := by
  rw [evSs_cons, h]
  exact k
theorem wp_nil (h : N sl) : (evalSs Γ .nil sl).wp N T := by rw [evSs_nil]; exact h
theorem wp_last (h : (evalS Γ s sl).wp N T) : (evalSs Γ (.cons s .nil) sl).wp N T := wp_cut N h fun sl' z => wp_nil z
/-- a test that does not hold, without another branch -/
theorem wp_skip {c : L} {a : Ss} {x : D} {sl' : Sl} (h : evalE Γ c sl = .ok x sl') (hx : truth x = false) (k : (evalSs Γ r sl').wp N T) : (evalSs Γ (.cons (.ite c a .nil) r) sl).wp N T := by
  refine wp_next (sl' := sl') ?_ k
  rw [evS_ite, h, R.rn_ok, hx]
  simp
/-- x = x + e, lists -/
theorem wp_grow {i : Nat} {e : L} {L M : List D} (hi : sl[i]? = some (some (.cell true (.lst L)))) (he : evalE Γ e sl = .ok (.list M) sl) (hl : L.length + M.length ≤ sizeLine)
    (k : (evalSs Γ r (sl.set i (some (.cell true (.lst (L ++ M)))))).wp N T) : (evalSs Γ (.cons (.asgC i (.op .add (.ref i) (.val e))) r) sl).wp N T := by
  refine wp_next ?_ k
  have hs : isSet sl i = true := by unfold isSet; rw [hi]
  have hp : peekD sl i = some (.list L) := by unfold peekD; rw [hi]
  rw [evS_asgC]
  simp [hs, he, hp, sAdd_lst hl]
theorem wp_while_ret (h : (evalSs Γ r sl).wp N T) : (evalSs Γ r sl).wp N T := h
end
end Rf
end
section
set_option linter.all false
set_option maxRecDepth 100000
namespace Rf
open PySem
theorem sMul_tup {xs : List D} {k : Nat} (h : xs ≠ []) (h2 : 2 ≤ k) (h3 : k ≤ 1000) (h4 : xs.length ≤ 1000) : sMul (.tuple xs) (.int (k : Nat)) = some (.tuple ((List.replicate k xs).flatten)) := by
  unfold sMul
  dsimp only
  have e : ¬ ((k : Int) = 1) := by omega
  have e2 : xs.isEmpty = false := by cases xs <;> first | exact absurd rfl h | rfl
  have e3 : (2 : Int) ≤ (k : Int) := by omega
  have e4 : (k : Int) ≤ 1000 := by omega
  simp [e, e2, e3, e4, h4, rep]
theorem good_rep {k n : Nat} {xs : List D} (h : ∀ y ∈ xs, Gud n y) : ∀ y ∈ (List.replicate k xs).flatten, Gud n y := fun y hy => by
  obtain ⟨l, hl, hy⟩ := List.mem_flatten.mp hy
  rw [List.eq_of_mem_replicate hl] at hy
  exact h y hy
theorem wp_things {Γ : Nat → List X → CR} {e : L} {r : Ss} {sl : Sl} {L M : List D} {N : Sl → Prop} {T : D → Sl → Prop} {a b : Nat} (hi : sl[4]? = some (some (.cell true (.lst L)))) (he : evalE Γ e sl = .ok (.list M) sl) (gL : ∀ y ∈ L, Gud 53 y) (lL : L.length ≤ a) (lM : M.length ≤ b) (hab : a + b ≤ 1000)
    (gM : ∀ y ∈ M, Gud 53 y) (k : ∀ L', (∀ y ∈ L', Gud 53 y) → L'.length ≤ a + b → (evalSs Γ r (sl.set 4 (some (.cell true (.lst L'))))).wp N T) : (evalSs Γ (.cons (.asgC 4 (.op .add (.ref 4) (.val e))) r) sl).wp N T :=
  wp_grow hi he (by have := sizeLine_ge; omega) (k _ (good_app gL gM) (by rw [List.length_append]; omega))
theorem wp_first {Γ : Nat → List X → CR} {i : Nat} {e : L} {r : Ss} {sl : Sl} {M : List D} {N : Sl → Prop} {T : D → Sl → Prop} {b : Nat} (he : evalN Γ e sl = .ok (.lst M) sl) (lM : M.length ≤ b)
    (gM : ∀ y ∈ M, Gud 53 y) (k : ∀ L', (∀ y ∈ L', Gud 53 y) → L'.length ≤ b → (evalSs Γ r (sl.set i (some (.cell true (.lst L'))))).wp N T) : (evalSs Γ (.cons (.asgC i e) r) sl).wp N T :=
  wp_next (by rw [evS_asgC, he]; rfl) (k _ gM lM)
section
variable {P : Nat → Option Fn}
theorem things_loop {Γ : Nat → List X → CR} {its L : List D} {a0 a1 a2 a3 a5 a6 : Option X} {r : Sl} {N : Sl → Prop} {T : D → Sl → Prop} (hits : ∀ y ∈ its, Gud 30 y) (hL : ∀ y ∈ L, Gud 53 y) (hl : L.length + its.length ≤ 1000)
    (hN : ∀ (L' : List D) (a6' : Option X), (∀ y ∈ L', Gud 53 y) → L'.length ≤ L.length + its.length → N (a0 :: a1 :: a2 :: a3 :: some (.cell true (.lst L')) :: a5 :: a6' :: r)) :
    (forLoop (forB Γ (.nm 6) (.cons (.app 4 (.tup (.cons (.tup (.cons (.const (.str ⟨#[97]⟩)) .nil)) (.cons (.tup (.cons (.tup (.cons (.var 6) .nil)) .nil)) .nil)))) .nil)) its (a0 :: a1 :: a2 :: a3 :: some (.cell true (.lst L)) :: a5 :: a6 :: r)).wp N T := by
  have big := sizeLine_ge
  obtain ⟨I, hI⟩ : ∃ I : Nat → Sl → Prop, I = fun k sl => ∃ (L' : List D) (a6' : Option X), sl = a0 :: a1 :: a2 :: a3 :: some (.cell true (.lst L')) :: a5 :: a6' :: r ∧ (∀ y ∈ L', Gud 53 y) ∧ L'.length ≤ L.length + k := ⟨_, rfl⟩
  refine wp_for I ?_ (by rw [hI]; exact ⟨L, a6, rfl, hL, by omega⟩) ?_
  · intro k x sl hx hs
    rw [hI] at hs
    obtain ⟨L', a6', rfl, g, l⟩ := hs
    have hk := (List.getElem?_eq_some_iff.mp hx).1
    have ca : ∀ y : D, cAppend y (.lst L') = some (.lst (L' ++ [y])) := fun y => if_pos (by omega)
    simp [ca]
    rw [hI]
    refine ⟨_, _, rfl, good_app g (good_cons ?_ good_nil), by simp; omega⟩
    have gx := (hits x (List.mem_of_getElem? hx)).mono (show 30 ≤ 50 by omega)
    exact good_tup (good_cons (good_tup (good_cons (good_str _ _) good_nil)) (good_cons (good_tup (good_cons (good_tup (good_cons gx good_nil)) good_nil)) good_nil))
  · intro sl hs
    rw [hI] at hs
    obtain ⟨L', a6', rfl, g, l⟩ := hs
    exact hN L' a6' g l
theorem bent_comp {ns : List Int} {m : Nat} {E : D} {ts : List Int} {a2 a4 a5 a6 a7 a8 a9 a10 a12 : Option X} {Q : D → Sl → Prop} (hb : Draws P m 19 ns [E] 20 (Gud 7)) (ht : ts.length + 200 ≤ townMax)
    (hQ : ∀ (ys : List D) (t' : List Int), (∀ y ∈ ys, Gud 53 y) → ys.length ≤ 10 → t'.length ≤ ts.length + 200 → Q (.list ys) [some (.d (scr ns)), some (.cell true (town t')), a2, some (.d E), a4, a5, a6, a7, a8, a9, a10, none, a12]) :
    (evalE (run P m) (.comp (.call 19 (.cons (.val (.var 0)) (.cons (.ref 1) (.cons (.val (.var 3)) .nil)))) (.nm 11) (.range1 (.const (.int 10))) .none [11]) [some (.d (scr ns)), some (.cell true (town ts)), a2, some (.d E), a4, a5, a6, a7, a8, a9, a10, none, a12]).wp Q := by
  have big := sizeLine_ge
  obtain ⟨J, hJ⟩ : ∃ J : Nat → List D → Sl → Prop, J = fun i acc sl => ∃ (t' : List Int) (x11 : Option D), sl = [some (.d (scr ns)), some (.cell true (town t')), a2, some (.d E), a4, a5, a6, a7, a8, a9, a10, x11.map .d, a12] ∧ t'.length ≤ ts.length + 20 * i ∧ (∀ y ∈ acc, Gud 53 y) ∧ acc.length ≤ i := ⟨_, rfl⟩
  have sm : smallI 10 = true := by decide
  refine wp_comp J (xs := rangeD 0 10) (by simp [sm]; rfl) (by simp) (by rw [range_len]; omega) ?_ (by rw [hJ]; exact ⟨ts, none, rfl, by omega, good_nil, by simp⟩) ?_
  · intro i x acc sl hx hj
    rw [hJ] at hj
    obtain ⟨t2, x11, rfl, h1, h2, h3⟩ := hj
    obtain ⟨hk, rfl⟩ := range_get hx
    simp [turnW]
    refine wp_draws (args := [E]) hb rfl (by omega) ?_
    intro d t3 h4 hg
    simp
    rw [hJ]
    exact ⟨t3, some (.int i), by simp, by omega, good_app h2 (good_cons (hg.mono (by omega)) good_nil), by simp; omega⟩
  · intro ys sl hj
    rw [hJ] at hj
    obtain ⟨t2, x11, rfl, h1, h2, h3⟩ := hj
    rw [range_len] at h1 h3
    simp
    exact hQ ys t2 h2 h3 (by omega)
theorem things_comp [At P 0 F_is_whole] [At P 1 F_is_word] [At P 2 F_are_numerals] [At P 3 F_is_part] [At P 4 F_is_hole] [At P 5 F_is_piece] [At P 6 F_is_system] [At P 7 F_holes_of] [At P 12 F_l_same] [At P 20 F_l_holes] [At P 24 F_l_letters] [At P 25 F_l_is_piece] [At P 26 F_l_is_system] (n : Nat) (L : List D) (hL : ∀ y ∈ L, Gud 53 y) (hl : L.length ≤ 1000) (a0 a1 a2 a3 a5 a6 a7 a8 a9 a10 a11 : Option X) :
    evalE (run P (n + 19)) (.comp (.call 12 (.cons (.val (.call 6 (.cons (.val (.var 12)) .nil))) (.cons (.val (.call 26 (.cons (.val (.var 12)) .nil))) .nil))) (.nm 12) (.seq (.frz 4)) .none [12]) [a0, a1, a2, a3, some (.cell true (.lst L)), a5, a6, a7, a8, a9, a10, a11, none] = .ok (.list (L.map fun _ => .bool true)) [a0, a1, a2, a3, some (.d (.list L)), a5, a6, a7, a8, a9, a10, a11, none] := by
  have big := sizeLine_ge
  refine evE_compM L id (fun _ => .bool true) (by simp) (by simp) (by simp) (by omega) fun y hy => ?_
  have h1 := run_is_system (P := P) (n + 14) y (hL y hy).pl
  have h2 := run_own_system (P := P) (n + 16) y (hL y hy)
  have h3 := run_same_bool (P := P) (n + 18) (sysB y) (sysB y)
  simp at h3
  exact ⟨_, by simp [turnW, h1, h2, h3]; rfl, by simp⟩
theorem run_law1 [At P 0 F_is_whole] [At P 1 F_is_word] [At P 2 F_are_numerals] [At P 3 F_is_part] [At P 4 F_is_hole] [At P 5 F_is_piece] [At P 6 F_is_system] [At P 7 F_holes_of] [At P 8 F_words_for] [At P 9 F_sizes_of] [At P 10 F_is_filling] [At P 11 F_how_many] [At P 12 F_l_same] [At P 13 F_l_draw] [At P 14 F_l_pick] [At P 15 F_l_mixed] [At P 16 F_l_drawn_word] [At P 17 F_l_drawn_hole] [At P 18 F_l_drawn_system] [At P 19 F_l_bent] [At P 20 F_l_holes] [At P 21 F_l_words] [At P 24 F_l_letters] [At P 25 F_l_is_piece] [At P 26 F_l_is_system] [At P 27 F_l_filling_holds] [At P 28 F_law_k01]
    (n : Nat) (ns : List Int) (hns : ns.length ≤ 63) : run P (n + 20) 28 [.d (scr ns)] = .ok (.bool true) [] := by
  refine CR.eq_of_wp ?_
  have big := sizeLine_ge
  rw [run_at F_law_k01, runFn_fin rfl, CR.wp_fin]
  have sm4 : smallI 4 = true := by decide
  unfold F_law_k01
  dsimp only
  have e0 : startSl F_law_k01 [.d (scr ns)] = [some (.d (scr ns)), none, none, none, none, none, none, none, none, none, none, none, none] := rfl
  refine wp_next (sl' := [some (.d (scr ns)), some (.cell true (town [])), none, none, none, none, none, none, none, none, none, none, none]) (by simp [startSl, town]) ?_
  obtain ⟨I, hI⟩ : ∃ I : Nat → Sl → Prop, I = fun k sl => ∃ (ts : List Int) (x2 x3 x4 x5 x6 x7 x8 x9 x10 : Option X), sl = [some (.d (scr ns)), some (.cell true (town ts)), x2, x3, x4, x5, x6, x7, x8, x9, x10, none, none] ∧ ts.length ≤ 2000 * k := ⟨_, rfl⟩
  refine wp_cut (I 4) ?_ ?_
  · rw [evS_for]
    simp only [evI_range1, evE_const, R.bnd_ok, sm4, if_true, R.rn_ok]
    refine wp_for I ?_ (by rw [hI]; exact ⟨[], none, none, none, none, none, none, none, none, none, rfl, by simp⟩) (fun sl h => h)
    intro k x sl hx hs
    rw [hI] at hs
    obtain ⟨ts, x2, x3, x4, x5, x6, x7, x8, x9, x10, rfl, hts⟩ := hs
    obtain ⟨hk, rfl⟩ := range_get hx
    have hk4 : k < 4 := hk
    have htm : townMax = 900000 := rfl
    rw [forB_nm]
    simp only [List.set_cons_succ, List.set_cons_zero]
    refine wp_cut (fun sl' => ∃ (t1 : List Int) (S : Sys), sl' = [some (.d (scr ns)), some (.cell true (town t1)), some (.d (.int (0 + (k : Nat)))), some (.d S.enc), x4, x5, x6, x7, x8, x9, x10, none, none] ∧ t1.length ≤ ts.length + 400 ∧ DOk S 4 3) ?_ ?_
    · simp
      refine wp_draws (args := [.int (4 : Nat), .int (3 : Nat)]) (draws_system (n + 15) ns 4 3 hns (by omega) (by omega) (by omega) (by omega)) rfl (by omega) ?_
      rintro _ t1 h1 ⟨S, rfl, hS⟩
      simp
      exact ⟨t1, S, ⟨rfl, rfl⟩, h1, hS⟩
    rintro _ ⟨t1, S, rfl, h1, hS⟩
    have hSm := dok_sm hS (by omega) (by omega)
    have hbent := draws_bent (P := P) ns hns (n + 12) 4 S.enc hSm
    have hfill := draws_filling (P := P) (n + 15) ns hns S (dok_fair hS (by omega) (by omega))
    have gE := sm_good hSm
    obtain ⟨nu, fo, hE, hnl, hfl, hfn, gnu, gfo⟩ : ∃ nu fo : List D, S.enc = .tuple [.tuple nu, .tuple fo] ∧ nu.length ≤ 4 ∧ fo.length ≤ 2 ∧ fo ≠ [] ∧ (∀ y ∈ nu, Gud 2 y) ∧ ∀ y ∈ fo, Gud 2 y := by
      refine ⟨S.nums.map .str, S.forms.map fun f => .tuple (f.map Piece.enc), rfl, by rw [List.length_map]; exact hS.n2, by rw [List.length_map]; exact hS.f2, ?_, ?_, ?_⟩
      · have := hS.f1
        intro z
        have z := congrArg List.length z
        rw [List.length_map, List.length_nil] at z
        omega
      · exact good_of_tup (good_of_tup gE _ (by simp))
      · exact good_of_tup (good_of_tup gE _ (by simp))
    rw [hE] at hbent hfill gE ⊢
    generalize PyData.int (0 + (k : Nat)) = kk
    have gnu2 : ∀ k, 2 ≤ k → ∀ y ∈ nu, Gud k y := fun k hk y hy => (gnu y hy).mono hk
    have gfo2 : ∀ k, 2 ≤ k → ∀ y ∈ fo, Gud k y := fun k hk y hy => (gfo y hy).mono hk
    have b1 : ∀ lo hi, sAdd (.tuple nu) (.tuple (cut nu lo hi)) = some (.tuple (nu ++ cut nu lo hi)) := fun lo hi => sAdd_tup (by have := cut_len (xs := nu) (lo := lo) (hi := hi); omega)
    have b2 : sMul (.tuple fo) (.int 4) = some (.tuple ((List.replicate 4 fo).flatten)) := sMul_tup (k := 4) hfn (by omega) (by omega) (by omega)
    have b3 : ∀ x : D, sMul (.tuple [x]) (.int 2) = some (.tuple ((List.replicate 2 [x]).flatten)) := fun x => sMul_tup (k := 2) (by simp) (by omega) (by omega) (by simp)
    have b4 : ∀ x : D, sMul (.tuple [x]) (.int 6) = some (.tuple ((List.replicate 6 [x]).flatten)) := fun x => sMul_tup (k := 6) (by simp) (by omega) (by omega) (by simp)
    have b5 : ∀ x : D, sMul (.tuple [x]) (.int 7) = some (.tuple ((List.replicate 7 [x]).flatten)) := fun x => sMul_tup (k := 7) (by simp) (by omega) (by omega) (by simp)
    have b6 : ∀ x : D, sMul (.tuple [x]) (.int 11) = some (.tuple ((List.replicate 11 [x]).flatten)) := fun x => sMul_tup (k := 11) (by simp) (by omega) (by omega) (by simp)
    have b7 : ∀ x : D, sMul (.tuple [x]) (.int 12) = some (.tuple ((List.replicate 12 [x]).flatten)) := fun x => sMul_tup (k := 12) (by simp) (by omega) (by omega) (by simp)
    refine wp_next (by simp; rfl) ?_
    refine wp_next (by simp; rfl) ?_
    obtain ⟨say, hsay⟩ : ∃ say : D, say = .tuple [.str ⟨#[115, 97, 121]⟩, .str ⟨#[97, 98]⟩] := ⟨_, rfl⟩
    obtain ⟨size, hsize⟩ : ∃ size : D, size = .tuple [.str ⟨#[115, 105, 122, 101]⟩, .int 0] := ⟨_, rfl⟩
    rw [← hsay, ← hsize]
    have gsay : ∀ k, Gud (k + 1) say := fun k => by rw [hsay]; exact good_tup (good_cons (good_str _ _) (good_cons (good_str _ _) good_nil))
    have gsize : ∀ k, Gud (k + 1) size := fun k => by rw [hsize]; exact good_tup (good_cons (good_str _ _) (good_cons (good_int _ _) good_nil))
    clear hsay hsize
    -- the first things
    refine wp_first (by simp [semB, bList]; rfl) (b := 6) (by simp) ?_ ?_
    · repeat first | refine good_cons ?_ ?_ | exact good_nil | refine good_tup ?_ | exact good_none _ | refine good_lst ?_ | refine gnu2 _ ?_ | refine gfo2 _ ?_ | omega
    intro L gL lL
    simp only [List.set_cons_succ, List.set_cons_zero]
    refine wp_things rfl (by simp [sCut, b1, b2]; rfl) gL lL (b := 3) (by simp) (by omega) ?_ ?_
    · repeat first | refine good_cons ?_ ?_ | exact good_nil | refine good_tup ?_ | exact gsay _ | exact gsize _ | exact good_str _ _ | exact good_none _ | exact good_bool _ _ | exact good_int _ _ | refine good_lst ?_ | refine gnu2 _ ?_ | refine gfo2 _ ?_ | exact good_cut (gnu2 _ (by omega)) | refine good_app ?_ ?_ | refine good_rep ?_ | omega
    intro L1 gL1 lL1
    simp only [List.set_cons_succ, List.set_cons_zero]
    clear gL lL L
    refine wp_things rfl (by simp [b3]; rfl) gL1 lL1 (b := 2) (by simp) (by omega) ?_ ?_
    · repeat first | refine good_cons ?_ ?_ | exact good_nil | refine good_tup ?_ | exact gsay _ | exact gsize _ | exact good_str _ _ | exact good_none _ | exact good_bool _ _ | exact good_int _ _ | refine good_lst ?_ | refine gnu2 _ ?_ | refine gfo2 _ ?_ | exact good_cut (gnu2 _ (by omega)) | refine good_app ?_ ?_ | refine good_rep ?_ | omega
    intro L2 gL2 lL2
    simp only [List.set_cons_succ, List.set_cons_zero]
    clear gL1 lL1 L1
    refine wp_things rfl (by simp []; rfl) gL2 lL2 (b := 2) (by simp) (by omega) ?_ ?_
    · repeat first | refine good_cons ?_ ?_ | exact good_nil | refine good_tup ?_ | exact gsay _ | exact gsize _ | exact good_str _ _ | exact good_none _ | exact good_bool _ _ | exact good_int _ _ | refine good_lst ?_ | refine gnu2 _ ?_ | refine gfo2 _ ?_ | exact good_cut (gnu2 _ (by omega)) | refine good_app ?_ ?_ | refine good_rep ?_ | omega
    intro L3 gL3 lL3
    simp only [List.set_cons_succ, List.set_cons_zero]
    clear gL2 lL2 L2
    refine wp_things rfl (by simp [b4, b5]; rfl) gL3 lL3 (b := 2) (by simp) (by omega) ?_ ?_
    · repeat first | refine good_cons ?_ ?_ | exact good_nil | refine good_tup ?_ | exact gsay _ | exact gsize _ | exact good_str _ _ | exact good_none _ | exact good_bool _ _ | exact good_int _ _ | refine good_lst ?_ | refine gnu2 _ ?_ | refine gfo2 _ ?_ | exact good_cut (gnu2 _ (by omega)) | refine good_app ?_ ?_ | refine good_rep ?_ | omega
    intro L4 gL4 lL4
    simp only [List.set_cons_succ, List.set_cons_zero]
    clear gL3 lL3 L3
    refine wp_things rfl (by simp [b6, b7, sAdd_tup]; rfl) gL4 lL4 (b := 2) (by simp) (by omega) ?_ ?_
    · repeat first | refine good_cons ?_ ?_ | exact good_nil | refine good_tup ?_ | exact gsay _ | exact gsize _ | exact good_str _ _ | exact good_none _ | exact good_bool _ _ | exact good_int _ _ | refine good_lst ?_ | refine gnu2 _ ?_ | refine gfo2 _ ?_ | exact good_cut (gnu2 _ (by omega)) | refine good_app ?_ ?_ | refine good_rep ?_ | omega
    intro L5 gL5 lL5
    simp only [List.set_cons_succ, List.set_cons_zero]
    clear gL4 lL4 L4
    refine wp_next (by simp; rfl) ?_
    refine wp_next (by simp [sAdd_lst]; rfl) ?_
    obtain ⟨its, hits, gI, lI⟩ : ∃ its : List D, its = [.tuple [.str ⟨#[109, 111, 114, 101]⟩, .str ⟨#[97]⟩, .str ⟨#[97]⟩, .int 0], .tuple [.str ⟨#[109, 111, 114, 101]⟩, .str ⟨#[97]⟩, .str ⟨#[98]⟩, .int 0], .tuple [.str ⟨#[115, 105, 103, 110]⟩, .str ⟨#[97, 98]⟩, .int 0], .tuple [.str ⟨#[119, 111, 114, 100]⟩, .str ⟨#[97, 98]⟩, .int 0], .tuple [.str ⟨#[115, 105, 122, 101]⟩, .int 1], .tuple [.str ⟨#[115, 105, 122, 101]⟩, .bool true], .tuple [.str ⟨#[115, 105, 103, 110]⟩, .str ⟨#[97]⟩, .int (-1)]] ∧ (∀ y ∈ its, Gud 30 y) ∧ its.length ≤ 7 := by
      refine ⟨_, rfl, ?_, by simp⟩
      repeat first | refine good_cons ?_ ?_ | exact good_nil | refine good_tup ?_ | exact good_str _ _ | exact good_none _ | exact good_bool _ _ | exact good_int _ _
    rw [← hits]
    clear hits
    refine wp_cut (fun sl' => ∃ (L5' : List D) (a6' : Option X), (∀ y ∈ L5', Gud 53 y) ∧ L5'.length ≤ 24 ∧ sl' = [some (.d (scr ns)), some (.cell true (town t1)), some (.d kk), some (.d (.tuple [.tuple nu, .tuple fo])), some (.cell true (.lst L5')), some (.d (.list its)), a6', some (.d (.tuple nu)), some (.d (.tuple fo)), some (.d say), some (.d size), none, none]) ?_ ?_
    · rw [evS_for]
      simp only [evI_seq, evE_var, getD_succ, getD_zero, R.of_some, R.bnd_ok, items, R.rn_ok]
      refine things_loop gI gL5 (by omega) fun L5' a6' g l => ⟨L5', a6', g, by omega, rfl⟩
    rintro _ ⟨L6, a6, gL6, lL6, rfl⟩
    clear gL5 lL5 L5
    refine wp_things rfl (by simp []; rfl) gL6 lL6 (b := 1) (by simp) (by omega) ?_ ?_
    · repeat first | refine good_cons ?_ ?_ | exact good_nil | refine good_tup ?_ | exact gsay _ | exact gsize _ | exact good_str _ _ | exact good_none _ | exact good_bool _ _ | exact good_int _ _ | refine good_lst ?_ | refine gnu2 _ ?_ | refine gfo2 _ ?_ | exact good_cut (gnu2 _ (by omega)) | refine good_app ?_ ?_ | refine good_rep ?_ | omega
    intro L7 gL7 lL7
    simp only [List.set_cons_succ, List.set_cons_zero]
    clear gL6 lL6 L6
    refine wp_things rfl (by simp []; rfl) gL7 lL7 (b := 2) (by simp) (by omega) ?_ ?_
    · repeat first | refine good_cons ?_ ?_ | exact good_nil | refine good_tup ?_ | exact gsay _ | exact gsize _ | exact good_str _ _ | exact good_none _ | exact good_bool _ _ | exact good_int _ _ | refine good_lst ?_ | refine gnu2 _ ?_ | refine gfo2 _ ?_ | exact good_cut (gnu2 _ (by omega)) | refine good_app ?_ ?_ | refine good_rep ?_ | omega
    intro L8 gL8 lL8
    simp only [List.set_cons_succ, List.set_cons_zero]
    clear gL7 lL7 L7
    refine wp_cut (fun sl' => ∃ (L8' : List D) (t2 : List Int), (∀ y ∈ L8', Gud 53 y) ∧ L8'.length ≤ 37 ∧ t2.length ≤ t1.length + 200 ∧ sl' = [some (.d (scr ns)), some (.cell true (town t2)), some (.d kk), some (.d (.tuple [.tuple nu, .tuple fo])), some (.cell true (.lst L8')), some (.d (.list its)), a6, some (.d (.tuple nu)), some (.d (.tuple fo)), some (.d say), some (.d size), none, none]) ?_ ?_
    · simp
      refine bent_comp hbent (by omega) ?_
      intro ys t2 gys lys l2
      have f3 : sAdd (.list L8) (.list ys) = some (.list (L8 ++ ys)) := sAdd_lst (by omega)
      simp [f3]
      exact ⟨_, good_app gL8 gys, by rw [List.length_append]; omega, t2, l2, rfl, rfl⟩
    rintro _ ⟨L9, t2, gL9, lL9, l2, rfl⟩
    clear gL8 lL8 L8
    have hall : ∀ M : List D, bAll [.list (M.map fun _ => PyData.bool true)] = some (.bool true) := fun M => by
      rw [bAll_map M (fun _ => true), show M.all (fun _ => true) = true from List.all_eq_true.mpr fun _ _ => rfl]
    refine wp_skip (x := .bool false) (sl' := [some (.d (scr ns)), some (.cell true (town t2)), some (.d kk), some (.d (.tuple [.tuple nu, .tuple fo])), some (.d (.list L9)), some (.d (.list its)), a6, some (.d (.tuple nu)), some (.d (.tuple fo)), some (.d say), some (.d size), none, none]) ?_ rfl ?_
    · rw [evE_not, evE_bi, evAs_cons, evZ_val, things_comp (P := P) n L9 gL9 (by omega)]
      simp only [R.bnd_ok, evAs_nil, resolve_cons, resolve_nil, zD_inl, Option.bind_some, Option.map_some, semB, hall, R.of_some]
      rfl
    refine wp_last ?_
    simp
    refine wp_draws (args := [.tuple [.tuple nu, .tuple fo]]) (ts := t2) hfill rfl (by omega) ?_
    rintro _ t3 h3 rfl
    simp
    rw [hI]
    exact ⟨t3, _, _, _, _, _, _, _, _, _, rfl, by omega⟩
  · intro sl hs
    rw [hI] at hs
    obtain ⟨ts, x2, x3, x4, x5, x6, x7, x8, x9, x10, rfl, hts⟩ := hs
    refine wp_last ?_
    simp
end
end Rf
end
section
set_option maxRecDepth 100000
namespace Rf
open PySem
instance at_k01_0 : At prog_k01.tab.prog 0 F_is_whole := ⟨rfl⟩
instance at_k01_1 : At prog_k01.tab.prog 1 F_is_word := ⟨rfl⟩
instance at_k01_2 : At prog_k01.tab.prog 2 F_are_numerals := ⟨rfl⟩
instance at_k01_3 : At prog_k01.tab.prog 3 F_is_part := ⟨rfl⟩
instance at_k01_4 : At prog_k01.tab.prog 4 F_is_hole := ⟨rfl⟩
instance at_k01_5 : At prog_k01.tab.prog 5 F_is_piece := ⟨rfl⟩
instance at_k01_6 : At prog_k01.tab.prog 6 F_is_system := ⟨rfl⟩
instance at_k01_7 : At prog_k01.tab.prog 7 F_holes_of := ⟨rfl⟩
instance at_k01_8 : At prog_k01.tab.prog 8 F_words_for := ⟨rfl⟩
instance at_k01_9 : At prog_k01.tab.prog 9 F_sizes_of := ⟨rfl⟩
instance at_k01_10 : At prog_k01.tab.prog 10 F_is_filling := ⟨rfl⟩
instance at_k01_11 : At prog_k01.tab.prog 11 F_how_many := ⟨rfl⟩
instance at_k01_12 : At prog_k01.tab.prog 12 F_l_same := ⟨rfl⟩
instance at_k01_13 : At prog_k01.tab.prog 13 F_l_draw := ⟨rfl⟩
instance at_k01_14 : At prog_k01.tab.prog 14 F_l_pick := ⟨rfl⟩
instance at_k01_15 : At prog_k01.tab.prog 15 F_l_mixed := ⟨rfl⟩
instance at_k01_16 : At prog_k01.tab.prog 16 F_l_drawn_word := ⟨rfl⟩
instance at_k01_17 : At prog_k01.tab.prog 17 F_l_drawn_hole := ⟨rfl⟩
instance at_k01_18 : At prog_k01.tab.prog 18 F_l_drawn_system := ⟨rfl⟩
instance at_k01_19 : At prog_k01.tab.prog 19 F_l_bent := ⟨rfl⟩
instance at_k01_20 : At prog_k01.tab.prog 20 F_l_holes := ⟨rfl⟩
instance at_k01_21 : At prog_k01.tab.prog 21 F_l_words := ⟨rfl⟩
instance at_k01_24 : At prog_k01.tab.prog 24 F_l_letters := ⟨rfl⟩
instance at_k01_25 : At prog_k01.tab.prog 25 F_l_is_piece := ⟨rfl⟩
instance at_k01_26 : At prog_k01.tab.prog 26 F_l_is_system := ⟨rfl⟩
instance at_k01_27 : At prog_k01.tab.prog 27 F_l_filling_holds := ⟨rfl⟩
instance at_k01_28 : At prog_k01.tab.prog 28 F_law_k01 := ⟨rfl⟩
def addrOf : Option (Option Value) → Addr
  | some (some (.ref d)) => d
  | _ => 0
theorem sg_ex {K : PySem.W.Frag} {pr : Params} {x : Str} (h1 : PySem.W.nsIn K mainGlobals x = some (some (.ref (addrOf (PySem.W.nsIn K mainGlobals x))))) (h2 : He.dicW K (addrOf (PySem.W.nsIn K mainGlobals x)) = some (He.keysIn pr (signsTab.map (·.1)))) : ∃ d, PySem.W.nsIn K mainGlobals x = some (some (.ref d)) ∧ He.dicW K d = some (He.keysIn pr (signsTab.map (·.1))) := ⟨_, h1, h2⟩
end Rf
end
section
set_option Elab.async false
set_option maxRecDepth 100000
open PySem PySem.W PyProof.Rows
set_option maxHeartbeats 0 in
theorem PySem.Challenge.cw_owntold_k01_systems_told_holds : PySem.Challenge.rw_owntold_k01_systems_told.Holds := by
  w_on; o_law; k_head; (case hw => w_witness2)
  k_fill
  refine Rf.law_end (l := PySem.Challenge.rw_owntold_k01_systems_told) Rf.prog_k01 28 Rf.F_law_k01 "_law_script" rfl (by decide) rfl Rf.room200 (fun w h Y => PySem.W.kIn_of Y) (fun w => ?hok) (fun w x e => ?hsg) rfl rfl rfl rfl (fun ns h => Rf.run_law1 180 ns h)
  case hok => kernel_rfl
  case hsg =>
    obtain rfl : _ = x := Option.some.inj e
    refine Rf.sg_ex ?_ ?_
    · kernel_rfl
    · kernel_rfl
end
